import PyProof.Rows.All
import Wide.All
import OpenK.AllK
import Wide.FinOn
import HandS.ForMost
import HandS.Deep
import HandS.IsInst
import HandS.TupAny
import HandS.Walk
import HandS.Exc
import HandS.WordsExc
import HandS.ExcOwn
import HandS.Zip
import HandS.Rev
import HandS.NoneIn
import KE.DataFind
import HandS.More
import HandS.SetFor
import PyProof.WalksMore
import KE.GoesMore
import KE.GoesEnum
import HandS.ExcField
import HandS.ExcIs
import HandS.ExcInit
import HandS.ExcValue
import KE.KExcIs
import PyProof.P3Eq
import HandS.Conv
import HandS.Dict
import HandS.Small
import HandS.DictTup
import HandS.SortInts
import HandS.TupSets
import KE.SortData
import KE.KDictList
import KE.KDictCopyH
import KE.KDictWalk
import HandS.RevRange
import KE.KDictSum
import PySem.Challenge.RW_wallspace_k81_whole_hall
set_option Elab.async false
set_option linter.all false
set_option maxRecDepth 100000
set_option maxHeartbeats 4000000
namespace PF
open PySem L2

/-! ### results, slots, environments -/
/-- an own exception: the number of its class, what it keeps -/
structure Exn where
  cls : Nat
  place : Option Int
  deriving DecidableEq
inductive Rs (α : Type) where
  | stuck
  | ok (a : α)
  | err (x : Exn)
def Rs.bind {α β : Type} : Rs α → (α → Rs β) → Rs β
  | .stuck, _ => .stuck
  | .ok a, f => f a
  | .err x, _ => .err x
instance : Monad Rs where
  pure := .ok
  bind := Rs.bind
theorem ok_bind {α β : Type} (a : α) (f : α → Rs β) : (Rs.ok a >>= f) = f a := rfl
theorem err_bind {α β : Type} (x : Exn) (f : α → Rs β) : ((Rs.err x : Rs α) >>= f) = .err x := rfl
theorem stuck_bind {α β : Type} (f : α → Rs β) : ((Rs.stuck : Rs α) >>= f) = .stuck := rfl
theorem pure_eq {α : Type} (a : α) : (pure a : Rs α) = .ok a := rfl
/-- what a slot holds: nothing told, shared data, a list of our own, a dict of our own, a caught error -/
inductive Sl where
  | no
  | sh (d : PyData)
  | ol (ds : List PyData)
  | od (kvs : List (List Int × PyData))
  | exn (x : Exn)
  | hal (m : Int) (ds : List PyData)
abbrev Env := List Sl
def Sl.own : Sl → Bool
  | .ol _ => true
  | .od _ => true
  | _ => false
/-- the fixed things: the written part, where the error classes stand -/
structure Pc where
  K : PySem.W.Frag
  ca : Nat → Addr

def Ex (H H' : Hp) : Prop := ∀ a o, H a = some o → H' a = some o
theorem Ex.refl (H : Hp) : Ex H H := fun _ _ h => h
theorem Ex.trans {H H1 H2 : Hp} (a : Ex H H1) (b : Ex H1 H2) : Ex H H2 := fun x o h => b x o (a x o h)
theorem Ex.new {H : Hp} {p : Addr} {o : HO} (h : H p = none) : Ex H (upd H p o) := fun a u e => by
  rw [upd_ne (ne_of_none e h)]
  exact e
theorem Ex.back {H H' : Hp} {p : Addr} (e : Ex H H') (h : H' p = none) : H p = none := by
  cases h1 : H p with
  | none => rfl
  | some o =>
    rw [e p o h1] at h
    cases h
theorem Ex.rd {H H' : Hp} {a : Addr} {u : HO} (e : Ex H H') (h : Rd H a u) : Rd H' a u := by
  rcases h with h | ⟨o, h⟩
  · exact Or.inl (e a _ h)
  · exact Or.inr ⟨o, e a _ h⟩
theorem Ex.sql {K : PySem.W.Frag} {H H' : Hp} {a : Addr} {xs : List V} (e : Ex H H') (h : SqL K H a xs) : SqL K H' a xs := by
  rcases h with h | h
  · exact Or.inl (e.rd h)
  · exact Or.inr h
theorem Ex.sqt {K : PySem.W.Frag} {H H' : Hp} {a : Addr} {xs : List V} (e : Ex H H') (h : SqT K H a xs) : SqT K H' a xs := by
  rcases h with h | h
  · exact Or.inl (e.rd h)
  · exact Or.inr h
/-! data, its tuples as they are told (none of the written part, none held) -/
mutual
inductive Dp (K : PySem.W.Frag) (H : Hp) : V → PyData → Prop
  | non : Dp K H .non .none
  | bl (b : Bool) : Dp K H (.bl b) (.bool b)
  | int (i : Int) : Dp K H (.int i) (.int i)
  | str (x : Str) : Dp K H (.str x) (.str x)
  | lst {a : Addr} {xs : List V} {ds : List PyData} : SqL K H a xs → DpAll K H xs ds → Dp K H (.ref a) (.list ds)
  | tup {a : Addr} {xs : List V} {ds : List PyData} : H a = some (.tup xs) → DpAll K H xs ds → Dp K H (.ref a) (.tuple ds)
inductive DpAll (K : PySem.W.Frag) (H : Hp) : List V → List PyData → Prop
  | nil : DpAll K H [] []
  | cons {v : V} {vs : List V} {d : PyData} {ds : List PyData} : Dp K H v d → DpAll K H vs ds → DpAll K H (v :: vs) (d :: ds)
end
theorem tup_sqt {K : PySem.W.Frag} {H : Hp} {a : Addr} {xs : List V} (h : H a = some (.tup xs)) : SqT K H a xs := .inl (.inl h)
mutual
theorem Dp.weak {K : PySem.W.Frag} {H : Hp} : ∀ {v : V} {d : PyData}, Dp K H v d → L2.Dp K H v d
  | _, _, .non => .non
  | _, _, .bl b => .bl b
  | _, _, .int i => .int i
  | _, _, .str x => .str x
  | _, _, .lst h a => .lst h (DpAll.weak a)
  | _, _, .tup h a => .tup (tup_sqt h) (DpAll.weak a)
theorem DpAll.weak {K : PySem.W.Frag} {H : Hp} : ∀ {vs : List V} {ds : List PyData}, DpAll K H vs ds → L2.DpAll K H vs ds
  | _, _, .nil => .nil
  | _, _, .cons h a => .cons (Dp.weak h) (DpAll.weak a)
end
theorem Dp.reads {X : Cx} {pins : List (Addr × Obj)} {σ : L2.St} {H : Hp} {s : Shared} (I : Inv X pins σ H s) (d : PyData) (v : V) (u : Value) (h : Dp X.K H v d) (r : RelV v u) : ∃ as, PySem.Reads s.heap u d as := L2.Dp.reads I d v u h.weak r
theorem DpAll.reads {X : Cx} {pins : List (Addr × Obj)} {σ : L2.St} {H : Hp} {s : Shared} (I : Inv X pins σ H s) (ds : List PyData) (vs : List V) (us : List Value) (h : DpAll X.K H vs ds) (r : Vals vs us) : ∃ as, PySem.ReadsAll s.heap us ds as := L2.Dp.readsAll I ds vs us h.weak r
mutual
theorem Dp.ex {K : PySem.W.Frag} {H H' : Hp} (e : Ex H H') : ∀ {v : V} {d : PyData}, Dp K H v d → Dp K H' v d
  | _, _, .non => .non
  | _, _, .bl b => .bl b
  | _, _, .int i => .int i
  | _, _, .str x => .str x
  | _, _, .lst h a => .lst (e.sql h) (DpAll.ex e a)
  | _, _, .tup h a => .tup (e _ _ h) (DpAll.ex e a)
theorem DpAll.ex {K : PySem.W.Frag} {H H' : Hp} (e : Ex H H') : ∀ {vs : List V} {ds : List PyData}, DpAll K H vs ds → DpAll K H' vs ds
  | _, _, .nil => .nil
  | _, _, .cons h a => .cons (Dp.ex e h) (DpAll.ex e a)
end
theorem DpAll.length {K : PySem.W.Frag} {H : Hp} : ∀ {vs : List V} {ds : List PyData}, DpAll K H vs ds → vs.length = ds.length
  | _, _, .nil => rfl
  | _, _, .cons _ a => congrArg (· + 1) (DpAll.length a)
theorem DpAll.get {K : PySem.W.Frag} {H : Hp} : ∀ {vs : List V} {ds : List PyData} {i : Nat} {v : V}, DpAll K H vs ds → vs[i]? = some v → ∃ d, ds[i]? = some d ∧ Dp K H v d
  | _, _, _, _, .nil, e => by simp at e
  | _, _, 0, _, .cons h _, e => by simp at e; subst e; exact ⟨_, rfl, h⟩
  | _, _, i + 1, v, .cons _ a, e => by
    obtain ⟨d, h1, h2⟩ := DpAll.get (i := i) (v := v) a (by simpa using e)
    exact ⟨d, by simpa using h1, h2⟩
theorem DpAll.getD {K : PySem.W.Frag} {H : Hp} : ∀ {vs : List V} {ds : List PyData} {i : Nat} {d : PyData}, DpAll K H vs ds → ds[i]? = some d → ∃ v, vs[i]? = some v ∧ Dp K H v d
  | _, _, _, _, .nil, e => by simp at e
  | _, _, 0, _, .cons h _, e => by simp at e; subst e; exact ⟨_, rfl, h⟩
  | _, _, i + 1, v, .cons _ a, e => by
    obtain ⟨d, h1, h2⟩ := DpAll.getD (i := i) (d := v) a (by simpa using e)
    exact ⟨d, by simpa using h1, h2⟩
theorem DpAll.append {K : PySem.W.Frag} {H : Hp} : ∀ {vs ws : List V} {ds es : List PyData}, DpAll K H vs ds → DpAll K H ws es → DpAll K H (vs ++ ws) (ds ++ es)
  | _, _, _, _, .nil, b => b
  | _, _, _, _, .cons h a, b => .cons h (DpAll.append a b)
theorem DpAll.take {K : PySem.W.Frag} {H : Hp} : ∀ {vs : List V} {ds : List PyData} (n : Nat), DpAll K H vs ds → DpAll K H (vs.take n) (ds.take n)
  | _, _, 0, _ => by simp; exact .nil
  | _, _, _ + 1, .nil => by simp; exact .nil
  | _, _, n + 1, .cons h a => .cons h (DpAll.take n a)
theorem DpAll.drop {K : PySem.W.Frag} {H : Hp} : ∀ {vs : List V} {ds : List PyData} (n : Nat), DpAll K H vs ds → DpAll K H (vs.drop n) (ds.drop n)
  | _, _, 0, a => a
  | _, _, _ + 1, .nil => by simp; exact .nil
  | _, _, n + 1, .cons _ a => DpAll.drop n a
theorem DpAll.set {K : PySem.W.Frag} {H : Hp} {x : V} {d : PyData} (h : Dp K H x d) : ∀ {vs : List V} {ds : List PyData} (i : Nat), DpAll K H vs ds → DpAll K H (vs.set i x) (ds.set i d)
  | _, _, _, .nil => .nil
  | _, _, 0, .cons _ a => .cons h a
  | _, _, i + 1, .cons q a => .cons q (DpAll.set h i a)
theorem DpAll.eraseIdx {K : PySem.W.Frag} {H : Hp} : ∀ {vs : List V} {ds : List PyData} (i : Nat), DpAll K H vs ds → DpAll K H (vs.eraseIdx i) (ds.eraseIdx i)
  | _, _, _, .nil => .nil
  | _, _, 0, .cons _ a => a
  | _, _, i + 1, .cons q a => .cons q (DpAll.eraseIdx i a)
theorem DpAll.reverse {K : PySem.W.Frag} {H : Hp} : ∀ {vs : List V} {ds : List PyData}, DpAll K H vs ds → DpAll K H vs.reverse ds.reverse
  | _, _, .nil => .nil
  | _, _, .cons h a => by
    rw [List.reverse_cons, List.reverse_cons]
    exact DpAll.append (DpAll.reverse a) (.cons h .nil)
/-- the value of an int, a bool, None is known -/
theorem Dp.int_v {K : PySem.W.Frag} {H : Hp} {v : V} {i : Int} (h : Dp K H v (.int i)) : v = .int i := by cases h; rfl
theorem Dp.bl_v {K : PySem.W.Frag} {H : Hp} {v : V} {b : Bool} (h : Dp K H v (.bool b)) : v = .bl b := by cases h; rfl
theorem Dp.non_v {K : PySem.W.Frag} {H : Hp} {v : V} (h : Dp K H v .none) : v = .non := by cases h; rfl
theorem Dp.list_v {K : PySem.W.Frag} {H : Hp} {v : V} {ds : List PyData} (h : Dp K H v (.list ds)) : ∃ a xs, v = .ref a ∧ SqL K H a xs ∧ DpAll K H xs ds := by
  cases h with
  | lst h a => exact ⟨_, _, rfl, h, a⟩
theorem Dp.tuple_s {K : PySem.W.Frag} {H : Hp} {v : V} {ds : List PyData} (h : Dp K H v (.tuple ds)) : ∃ a xs, v = .ref a ∧ H a = some (.tup xs) ∧ DpAll K H xs ds := by
  cases h with
  | tup h a => exact ⟨_, _, rfl, h, a⟩
theorem Dp.tuple_v {K : PySem.W.Frag} {H : Hp} {v : V} {ds : List PyData} (h : Dp K H v (.tuple ds)) : ∃ a xs, v = .ref a ∧ SqT K H a xs ∧ DpAll K H xs ds := by
  obtain ⟨a, xs, e, h, q⟩ := h.tuple_s
  exact ⟨a, xs, e, tup_sqt h, q⟩

/-! ### the visible heap G within the heap H -/
def NoOwn (o : Option HO) : Prop := o = none ∨ ∃ xs, o = some (.tup xs)
structure Nx (G H G' H' : Hp) : Prop where
  g : Ex G G'
  h : Ex H H'
  gh : Ex G' H'
  fr : ∀ a, H a ≠ none → G a = none → NoOwn (G' a)
theorem Nx.refl {G H : Hp} (e : Ex G H) : Nx G H G H := ⟨Ex.refl _, Ex.refl _, e, fun _ _ h => .inl h⟩
theorem Nx.trans {G H G1 H1 G2 H2 : Hp} (a : Nx G H G1 H1) (b : Nx G1 H1 G2 H2) : Nx G H G2 H2 := by
  refine ⟨a.g.trans b.g, a.h.trans b.h, b.gh, fun x hx gx => ?_⟩
  rcases a.fr x hx gx with h | ⟨xs, h⟩
  · refine b.fr x (fun z => hx ?_) h
    exact a.h.back z
  · exact .inr ⟨xs, b.g _ _ h⟩
/-- a new object, visible -/
theorem Nx.new {G H : Hp} {p : Addr} {o : HO} (e : Ex G H) (h : H p = none) : Nx G H (upd G p o) (upd H p o) := by
  have gp : G p = none := e.back h
  refine ⟨Ex.new gp, Ex.new h, fun a u q => ?_, fun a ha ga => ?_⟩
  · by_cases hp : a = p
    · subst hp
      rw [upd_same] at q ⊢
      exact q
    · rw [upd_ne hp] at q ⊢
      exact e a u q
  · have hp : a ≠ p := fun z => ha (by rw [z]; exact h)
    rw [upd_ne hp]
    exact .inl ga
/-- a new object, not shown yet -/
theorem Nx.hid {G H : Hp} {p : Addr} {o : HO} (e : Ex G H) (h : H p = none) : Nx G H G (upd H p o) :=
  ⟨Ex.refl _, Ex.new h, e.trans (Ex.new h), fun _ _ q => .inl q⟩
/-- an object that was not there at (G, H) is shown now -/
theorem Nx.show {G H G1 H1 : Hp} {p : Addr} {o : HO} (n : Nx G H G1 H1) (h0 : H p = none) (h1 : H1 p = some o) (g1 : G1 p = none) : Nx G H (upd G1 p o) H1 := by
  refine ⟨fun a u q => ?_, n.h, fun a u q => ?_, fun a ha ga => ?_⟩
  · have := n.g a u q
    rw [upd_ne (ne_of_none this g1)]
    exact this
  · by_cases hp : a = p
    · subst hp
      rw [upd_same] at q
      cases q
      exact h1
    · rw [upd_ne hp] at q
      exact n.gh a u q
  · have hp : a ≠ p := fun z => ha (by rw [z]; exact h0)
    rw [upd_ne hp]
    exact n.fr a ha ga

/-! ### a dict of our own -/
def KvOk (K : PySem.W.Frag) (G : Hp) (es : List (List Key × V)) (kvs : List (List Int × PyData)) : Prop :=
  es.map (·.1) = kvs.map (fun kv => kv.1.map Sum.inl) ∧ DpAll K G (es.map (·.2)) (kvs.map (·.2))
theorem KvOk.ex {K : PySem.W.Frag} {G G' : Hp} {es : List (List Key × V)} {kvs : List (List Int × PyData)} (e : Ex G G') (h : KvOk K G es kvs) : KvOk K G' es kvs := ⟨h.1, DpAll.ex e h.2⟩

/-! ### an error as it flies, as it is held -/
def XR (c : Pc) (x : Exn) (cl : Value) (dd : Option Addr) (H : Hp) : Prop :=
  cl = .ref (c.ca x.cls) ∧ (match x.place with
    | none => dd = none
    | some i => ∃ d, dd = some d ∧ H d = some (.xd [("place", .int i)]))
/-- an error's object, held -/
def excO (C : Addr) (d : Option Addr) (a : Addr) : HO := .ext fun h => ∃ oe vs, h.get? a = some oe ∧ oe.cls = .ref C ∧ oe.dict = d ∧ oe.data = .fields vs
def ExnOk (c : Pc) (G : Hp) (v : V) (x : Exn) : Prop :=
  ∃ a dd, v = .ref a ∧ G a = some (excO (c.ca x.cls) dd a) ∧ (match x.place with
    | none => dd = none
    | some i => ∃ d, dd = some d ∧ G d = some (.xd [("place", .int i)]))
theorem ExnOk.ex {c : Pc} {G G' : Hp} {v : V} {x : Exn} (e : Ex G G') (h : ExnOk c G v x) : ExnOk c G' v x := by
  obtain ⟨a, dd, e1, e2, e3⟩ := h
  refine ⟨a, dd, e1, e _ _ e2, ?_⟩
  cases hp : x.place with
  | none => rw [hp] at e3; exact e3
  | some i =>
    rw [hp] at e3
    obtain ⟨d, q1, q2⟩ := e3
    exact ⟨d, q1, e _ _ q2⟩

/-! ### slots and environments over the heap -/
def SlOk (c : Pc) (G H : Hp) : Sl → Option V → Prop
  | .no, _ => True
  | .sh d, o => ∃ v, o = some v ∧ Dp c.K G v d
  | .ol ds, o => ∃ p xs, o = some (.ref p) ∧ G p = none ∧ H p = some (.lst xs) ∧ DpAll c.K G xs ds
  | .od kvs, o => ∃ p es, o = some (.ref p) ∧ G p = none ∧ H p = some (.dT es) ∧ KvOk c.K G es kvs
  | .exn x, o => ∃ v, o = some v ∧ ExnOk c G v x
  | .hal m ds, o => ∃ a dx p, o = some (.ref a) ∧ G a = none ∧ H a = some (.ins (c.ca 6) dx [("many", .int m), ("standing", .ref p)]) ∧ Dp c.K G (.ref p) (.list ds)
theorem SlOk.nx {c : Pc} {G H G' H' : Hp} {s : Sl} {o : Option V} (n : Nx G H G' H') (h : SlOk c G H s o) : SlOk c G' H' s o := by
  have key : ∀ p u, G p = none → H p = some u → (∀ xs, u ≠ .tup xs) → G' p = none := fun p u g1 h1 hu => by
    rcases n.fr p (by rw [h1]; simp) g1 with q | ⟨xs, q⟩
    · exact q
    · have e1 := n.gh _ _ q
      have e2 := n.h _ _ h1
      rw [e1] at e2
      cases e2
      exact absurd rfl (hu xs)
  cases s with
  | no => trivial
  | sh d => obtain ⟨v, e, q⟩ := h; exact ⟨v, e, Dp.ex n.g q⟩
  | ol ds => obtain ⟨p, xs, e, g1, h1, q⟩ := h; exact ⟨p, xs, e, key p _ g1 h1 (fun _ z => by cases z), n.h _ _ h1, DpAll.ex n.g q⟩
  | od kvs => obtain ⟨p, es, e, g1, h1, q⟩ := h; exact ⟨p, es, e, key p _ g1 h1 (fun _ z => by cases z), n.h _ _ h1, KvOk.ex n.g q⟩
  | exn x => obtain ⟨v, e, q⟩ := h; exact ⟨v, e, q.ex n.g⟩
  | hal m ds => obtain ⟨a, dx, p, e, g1, h1, q⟩ := h; exact ⟨a, dx, p, e, key a _ g1 h1 (fun _ z => by cases z), n.h _ _ h1, Dp.ex n.g q⟩
structure Rep (c : Pc) (G H : Hp) (ρ : Env) (σ : L2.St) : Prop where
  gh : Ex G H
  len : ρ.length = σ.length
  sl : ∀ (i : Nat) s, ρ[i]? = some s → ∃ o, σ[i]? = some o ∧ SlOk c G H s o
  inj : ∀ (i j : Nat) s s' p, ρ[i]? = some s → ρ[j]? = some s' → s.own = true → s'.own = true → σ[i]? = some (some (.ref p)) → σ[j]? = some (some (.ref p)) → i = j
theorem Rep.nx {c : Pc} {G H G' H' : Hp} {ρ : Env} {σ : L2.St} (r : Rep c G H ρ σ) (n : Nx G H G' H') : Rep c G' H' ρ σ :=
  ⟨n.gh, r.len, fun i s e => let ⟨o, e1, q⟩ := r.sl i s e; ⟨o, e1, q.nx n⟩, r.inj⟩
/-- a slot takes shared data (or nothing told) -/
theorem Rep.set {c : Pc} {G H : Hp} {ρ : Env} {σ : L2.St} {i : Nat} {s : Sl} {o : Option V} (r : Rep c G H ρ σ) (hs : s.own = false) (h : SlOk c G H s o) : Rep c G H (ρ.set i s) (σ.set i o) := by
  refine ⟨r.gh, by rw [List.length_set, List.length_set, r.len], fun j u e => ?_, fun j k u u' p e1 e2 w1 w2 f1 f2 => ?_⟩
  · rw [List.getElem?_set] at e ⊢
    by_cases hij : i = j
    · rw [if_pos hij] at e ⊢
      by_cases hl : i < ρ.length
      · rw [if_pos hl] at e
        cases e
        rw [if_pos (by rw [← r.len]; exact hl)]
        exact ⟨o, rfl, h⟩
      · rw [if_neg hl] at e
        cases e
    · rw [if_neg hij] at e ⊢
      exact r.sl j u e
  · have key : ∀ (m : Nat) (w : Sl), (ρ.set i s)[m]? = some w → w.own = true → i ≠ m := fun m w e hw z => by
      rw [List.getElem?_set, if_pos z] at e
      split at e
      · cases e; rw [hs] at hw; cases hw
      · cases e
    have n1 := key j u e1 w1
    have n2 := key k u' e2 w2
    rw [List.getElem?_set, if_neg n1] at e1 f1
    rw [List.getElem?_set, if_neg n2] at e2 f2
    exact r.inj j k u u' p e1 e2 w1 w2 f1 f2
/-- a slot takes an object of our own that no slot held -/
theorem Rep.setOwn {c : Pc} {G H : Hp} {ρ : Env} {σ : L2.St} {i : Nat} {s : Sl} {p : Addr} (r : Rep c G H ρ σ) (h : SlOk c G H s (some (.ref p)))
    (hn : ∀ (j : Nat) u, j ≠ i → ρ[j]? = some u → u.own = true → σ[j]? ≠ some (some (.ref p))) : Rep c G H (ρ.set i s) (σ.set i (some (.ref p))) := by
  refine ⟨r.gh, by rw [List.length_set, List.length_set, r.len], fun j u e => ?_, fun j k u u' q e1 e2 w1 w2 f1 f2 => ?_⟩
  · rw [List.getElem?_set] at e ⊢
    by_cases hij : i = j
    · rw [if_pos hij] at e ⊢
      by_cases hl : i < ρ.length
      · rw [if_pos hl] at e
        cases e
        rw [if_pos (by rw [← r.len]; exact hl)]
        exact ⟨_, rfl, h⟩
      · rw [if_neg hl] at e
        cases e
    · rw [if_neg hij] at e ⊢
      exact r.sl j u e
  · by_cases h1 : i = j
    · by_cases h2 : i = k
      · rw [← h1, ← h2]
      · rw [List.getElem?_set, if_pos h1] at f1
        rw [List.getElem?_set, if_neg h2] at f2 e2
        split at f1
        · cases f1
          exact absurd f2 (hn k u' (fun z => h2 z.symm) e2 w2)
        · cases f1
    · by_cases h2 : i = k
      · rw [List.getElem?_set, if_neg h1] at f1 e1
        rw [List.getElem?_set, if_pos h2] at f2
        split at f2
        · cases f2
          exact absurd f1 (hn j u (fun z => h1 z.symm) e1 w1)
        · cases f2
      · rw [List.getElem?_set, if_neg h1] at f1 e1
        rw [List.getElem?_set, if_neg h2] at f2 e2
        exact r.inj j k u u' q e1 e2 w1 w2 f1 f2
/-- what a slot owns is no hall -/
theorem Rep.nhal {c : Pc} {G H : Hp} {ρ : Env} {σ : L2.St} {i : Nat} {s : Sl} {p : Addr} (r : Rep c G H ρ σ) (hi : ρ[i]? = some s) (ho : s.own = true) (hp : σ[i]? = some (some (.ref p))) : ∀ C dx fs, H p ≠ some (.ins C dx fs) := fun C dx fs z => by
  obtain ⟨o, e1, q⟩ := r.sl i s hi
  rw [hp] at e1
  cases e1
  cases s with
  | ol ds => obtain ⟨b, xs, w, _, h1, _⟩ := q; cases w; rw [z] at h1; cases h1
  | od ds => obtain ⟨b, xs, w, _, h1, _⟩ := q; cases w; rw [z] at h1; cases h1
  | no => cases ho
  | sh d => cases ho
  | exn x => cases ho
  | hal m ds => cases ho
/-- an owned object of slot i is rewritten -/
theorem Rep.mut {c : Pc} {G H : Hp} {ρ : Env} {σ : L2.St} {i : Nat} {s s' : Sl} {p : Addr} {o' : HO} (r : Rep c G H ρ σ) (hi : ρ[i]? = some s) (ho : s.own = true) (hp : σ[i]? = some (some (.ref p)))
    (gp : G p = none) (h : SlOk c G (upd H p o') s' (some (.ref p))) : Rep c G (upd H p o') (ρ.set i s') σ := by
  have e0 : σ.set i (some (.ref p)) = σ := by
    apply List.ext_getElem?
    intro j
    rw [List.getElem?_set]
    by_cases hij : i = j
    · rw [if_pos hij]
      have hl : i < σ.length := (List.getElem?_eq_some_iff.mp hp).1
      rw [if_pos hl, ← hij]
      exact hp.symm
    · rw [if_neg hij]
  have nhal := r.nhal hi ho hp
  have r1 : ∀ (j : Nat) u, ρ[j]? = some u → j ≠ i → ∃ o, σ[j]? = some o ∧ SlOk c G (upd H p o') u o := fun j u e hj => by
    obtain ⟨o, e1, q⟩ := r.sl j u e
    refine ⟨o, e1, ?_⟩
    have ne : ∀ b, o = some (.ref b) → u.own = true → b ≠ p := fun b eb hu z => by
      subst z
      rw [eb] at e1
      exact hj (r.inj j i u s b e hi hu ho e1 hp)
    cases u with
    | no => trivial
    | sh d => exact q
    | ol ds => obtain ⟨b, xs, e2, g1, h1, q2⟩ := q; exact ⟨b, xs, e2, g1, by rw [upd_ne (ne b e2 rfl)]; exact h1, q2⟩
    | od kvs => obtain ⟨b, xs, e2, g1, h1, q2⟩ := q; exact ⟨b, xs, e2, g1, by rw [upd_ne (ne b e2 rfl)]; exact h1, q2⟩
    | exn x => exact q
    | hal m ds => obtain ⟨b, dx, t, e2, g1, h1, q2⟩ := q; exact ⟨b, dx, t, e2, g1, by rw [upd_ne (fun z => nhal _ _ _ (z ▸ h1))]; exact h1, q2⟩
  have gh : Ex G (upd H p o') := fun a u q => by
    rw [upd_ne (ne_of_none q gp)]
    exact r.gh a u q
  refine ⟨gh, by rw [List.length_set, r.len], fun j u e => ?_, fun j k u u' q e1 e2 w1 w2 f1 f2 => ?_⟩
  · rw [List.getElem?_set] at e
    by_cases hij : i = j
    · rw [if_pos hij] at e
      split at e
      · cases e
        rw [← hij]
        exact ⟨_, hp, h⟩
      · cases e
    · rw [if_neg hij] at e
      exact r1 j u e (fun z => hij z.symm)
  · have key : ∀ (m : Nat) w, (ρ.set i s')[m]? = some w → w.own = true → ∃ w', ρ[m]? = some w' ∧ w'.own = true := fun m w e hw => by
      rw [List.getElem?_set] at e
      by_cases him : i = m
      · rw [← him]
        exact ⟨s, hi, ho⟩
      · rw [if_neg him] at e
        exact ⟨w, e, hw⟩
    obtain ⟨w, a1, a2⟩ := key j u e1 w1
    obtain ⟨w', b1, b2⟩ := key k u' e2 w2
    exact r.inj j k w w' q a1 b1 a2 b2 f1 f2
/-- what our own objects are: not those of the entry -/
structure Ent (G0 H0 G H : Hp) (ρ : Env) (σ : L2.St) : Prop where
  nx : Nx G0 H0 G H
  own : ∀ (i : Nat) s p, ρ[i]? = some s → s.own = true → σ[i]? = some (some (.ref p)) → H0 p = none
theorem Ent.go {G0 H0 G H G' H' : Hp} {ρ : Env} {σ : L2.St} (e : Ent G0 H0 G H ρ σ) (n : Nx G H G' H') : Ent G0 H0 G' H' ρ σ := ⟨e.nx.trans n, e.own⟩
end PF

namespace PF
open PySem L2

/-- shared data, or a list of our own whose items are shared -/
def Db (K : PySem.W.Frag) (G H : Hp) (v : V) (d : PyData) : Prop := Dp K G v d ∨ ∃ a xs ds, d = .list ds ∧ v = .ref a ∧ SqL K H a xs ∧ DpAll K G xs ds
theorem db_h {K : PySem.W.Frag} {G H : Hp} {v : V} {d : PyData} (e : Ex G H) (h : Db K G H v d) : Dp K H v d := by
  rcases h with h | ⟨a, xs, ds, rfl, rfl, h, q⟩
  · exact Dp.ex e h
  · exact .lst h (DpAll.ex e q)
theorem db_nx {K : PySem.W.Frag} {G H G' H' : Hp} {v : V} {d : PyData} (n : Nx G H G' H') (h : Db K G H v d) : Db K G' H' v d := by
  rcases h with h | ⟨a, xs, ds, rfl, rfl, h, q⟩
  · exact .inl (Dp.ex n.g h)
  · exact .inr ⟨a, xs, ds, rfl, rfl, Ex.sql n.h h, DpAll.ex n.g q⟩
theorem db_list {K : PySem.W.Frag} {G H : Hp} {v : V} {ds : List PyData} (e : Ex G H) (h : Db K G H v (.list ds)) : ∃ a xs, v = .ref a ∧ SqL K H a xs ∧ DpAll K G xs ds := by
  rcases h with h | ⟨a, xs, ds, z, rfl, h, q⟩
  · obtain ⟨a, xs, rfl, h, q⟩ := Dp.list_v h
    exact ⟨a, xs, rfl, Ex.sql e h, q⟩
  · cases z
    exact ⟨a, xs, rfl, h, q⟩
theorem db_tups {K : PySem.W.Frag} {G H : Hp} {v : V} {ds : List PyData} (h : Db K G H v (.tuple ds)) : ∃ a xs, v = .ref a ∧ G a = some (.tup xs) ∧ DpAll K G xs ds := by
  rcases h with h | ⟨a, xs, ds, z, _⟩
  · exact Dp.tuple_s h
  · cases z
theorem db_tup {K : PySem.W.Frag} {G H : Hp} {v : V} {ds : List PyData} (h : Db K G H v (.tuple ds)) : ∃ a xs, v = .ref a ∧ SqT K G a xs ∧ DpAll K G xs ds := by
  rcases h with h | ⟨a, xs, ds, z, _⟩
  · exact Dp.tuple_v h
  · cases z
theorem db_int {K : PySem.W.Frag} {G H : Hp} {v : V} {i : Int} (h : Db K G H v (.int i)) : v = .int i := by
  rcases h with h | ⟨a, xs, ds, z, _⟩
  · exact Dp.int_v h
  · cases z
theorem db_bl {K : PySem.W.Frag} {G H : Hp} {v : V} {i : Bool} (h : Db K G H v (.bool i)) : v = .bl i := by
  rcases h with h | ⟨a, xs, ds, z, _⟩
  · exact Dp.bl_v h
  · cases z
theorem db_non {K : PySem.W.Frag} {G H : Hp} {v : V} (h : Db K G H v .none) : v = .non := by
  rcases h with h | ⟨a, xs, ds, z, _⟩
  · exact Dp.non_v h
  · cases z

/-! ### what a reading gives -/
abbrev Rel (β α : Type) := Hp → Hp → Hp → Hp → β → α → Prop
def ErrP {α : Type} (c : Pc) (E : XK) (G H : Hp) (r : Rs α) : Prop := ∀ x, r = .err x → ∀ G' H' cl dd, Nx G H G' H' → XR c x cl dd G' → E cl dd H'
theorem ErrP.go {α : Type} {c : Pc} {E : XK} {G H G' H' : Hp} {r : Rs α} (h : ErrP c E G H r) (n : Nx G H G' H') : ErrP c E G' H' r := fun x e _ _ _ _ m q => h x e _ _ _ _ (n.trans m) q
def SemG {β α : Type} (c : Pc) (E : XK) (t : L2.St → Hp → (β → Hp → Prop) → Prop) (F : Env → Rs α) (R : Rel β α) : Prop :=
  ∀ (G H : Hp) (ρ : Env) (σ : L2.St), Rep c G H ρ σ → F ρ ≠ .stuck → ∀ Q : β → Hp → Prop,
    (∀ a, F ρ = .ok a → ∀ G' H' v, Nx G H G' H' → R G H G' H' v a → Q v H') → ErrP c E G H (F ρ) → t σ H Q
theorem SemG.use {β α γ : Type} {c : Pc} {E : XK} {t : L2.St → Hp → (β → Hp → Prop) → Prop} {F : Env → Rs α} {R : Rel β α} (h : SemG c E t F R) {k : α → Rs γ} {G H : Hp} {ρ : Env} {σ : L2.St} (rep : Rep c G H ρ σ)
    (hns : (F ρ >>= k) ≠ .stuck) (her : ErrP c E G H (F ρ >>= k)) {Q : β → Hp → Prop}
    (go : ∀ a, F ρ = .ok a → (F ρ >>= k) = k a → ∀ G' H' v, Nx G H G' H' → Rep c G' H' ρ σ → R G H G' H' v a → k a ≠ .stuck → ErrP c E G' H' (k a) → Q v H') : t σ H Q := by
  refine h G H ρ σ rep (fun z => hns (by rw [z]; rfl)) Q (fun a e G' H' v n q => ?_) (fun x e => ?_)
  · have e1 : (F ρ >>= k) = k a := by rw [e]; rfl
    refine go a e e1 G' H' v n (rep.nx n) q (by rw [← e1]; exact hns) ?_
    rw [← e1]
    exact her.go n
  · exact her x (by rw [e]; rfl)
def RB (c : Pc) : Rel V PyData := fun _ _ G' H' v d => Db c.K G' H' v d
def RS (c : Pc) : Rel V PyData := fun _ _ G' _ v d => Dp c.K G' v d
def RV (c : Pc) : Rel V Sl := fun _ H G' H' v s => match s with
  | .no => False
  | .sh d => Dp c.K G' v d
  | .ol ds => ∃ p xs, v = .ref p ∧ H p = none ∧ G' p = none ∧ H' p = some (.lst xs) ∧ DpAll c.K G' xs ds
  | .od kvs => ∃ p es, v = .ref p ∧ H p = none ∧ G' p = none ∧ H' p = some (.dT es) ∧ KvOk c.K G' es kvs
  | .exn x => ExnOk c G' v x
  | .hal _ _ => False
def RT : Rel Bool Bool := fun _ _ _ _ b a => b = a
def RA (c : Pc) : Rel (List V) (List PyData) := fun _ _ G' _ vs ds => DpAll c.K G' vs ds
def RO : Rel (Option Int) (Option Int) := fun _ _ _ _ b a => b = a
theorem RV.mono {c : Pc} {G H G1 H1 G' H' : Hp} {v : V} {s : Sl} (n : Nx G H G1 H1) (h : RV c G1 H1 G' H' v s) : RV c G H G' H' v s := by
  cases s with
  | no => exact h
  | sh d => exact h
  | ol ds => obtain ⟨p, xs, e, h1, q⟩ := h; exact ⟨p, xs, e, n.h.back h1, q⟩
  | od ds => obtain ⟨p, xs, e, h1, q⟩ := h; exact ⟨p, xs, e, n.h.back h1, q⟩
  | exn x => exact h
  | hal _ _ => exact h

/-! ### the judgements: the syntax's reading, and what it computes -/
structure JB (ca : Nat → Addr) (X : Cx) (E : XK) (e : Expr) (t : TE) (F : Env → Rs PyData) : Prop where
  pe : PE X e t
  sem : SemG ⟨X.K, ca⟩ E t F (RB ⟨X.K, ca⟩)
structure JS (ca : Nat → Addr) (X : Cx) (E : XK) (e : Expr) (t : TE) (F : Env → Rs PyData) : Prop where
  pe : PE X e t
  sem : SemG ⟨X.K, ca⟩ E t F (RS ⟨X.K, ca⟩)
structure JV (ca : Nat → Addr) (X : Cx) (E : XK) (e : Expr) (t : TE) (F : Env → Rs Sl) : Prop where
  pe : PE X e t
  sem : SemG ⟨X.K, ca⟩ E t F (RV ⟨X.K, ca⟩)
structure JT (ca : Nat → Addr) (X : Cx) (E : XK) (e : Expr) (t : TT) (F : Env → Rs Bool) : Prop where
  pt : PT X e t
  sem : SemG ⟨X.K, ca⟩ E t F RT
structure JA (ca : Nat → Addr) (X : Cx) (E : XK) (es : List Expr) (t : TA) (F : Env → Rs (List PyData)) : Prop where
  pa : PA X es t
  sem : SemG ⟨X.K, ca⟩ E t F (RA ⟨X.K, ca⟩)
structure JO (ca : Nat → Addr) (X : Cx) (E : XK) (e : Option Expr) (t : TO) (F : Env → Rs (Option Int)) : Prop where
  po : PO X e t
  sem : SemG ⟨X.K, ca⟩ E t F RO

def slShare : Sl → Rs PyData
  | .sh d => .ok d
  | .ol ds => .ok (.list ds)
  | _ => .stuck
def fSh (F : Env → Rs Sl) : Env → Rs PyData := fun ρ => F ρ >>= slShare
def fV (F : Env → Rs PyData) : Env → Rs Sl := fun ρ => F ρ >>= fun d => .ok (.sh d)
section
variable {ca : Nat → Addr} {X : Cx} {E : XK} {e : Expr} {t : TE}
theorem jb_s {F : Env → Rs PyData} (h : JS ca X E e t F) : JB ca X E e t F :=
  ⟨h.pe, fun G H ρ σ rep hns Q ok er => h.sem G H ρ σ rep hns Q (fun a ea G' H' v n q => ok a ea G' H' v n (.inl q)) er⟩
theorem jv_s {F : Env → Rs PyData} (h : JS ca X E e t F) : JV ca X E e t (fV F) :=
  ⟨h.pe, fun G H ρ σ rep hns Q ok er => h.sem.use rep hns er fun a ea e1 G' H' v n _ q _ _ => ok (.sh a) e1 G' H' v n q⟩
theorem js_v {F : Env → Rs Sl} (h : JV ca X E e t F) : JS ca X E e t (fSh F) := by
  refine ⟨h.pe, fun G H ρ σ rep hns Q ok er => h.sem.use rep hns er fun a ea e1 G' H' v n _ q hk _ => ?_⟩
  cases a with
  | no => exact absurd rfl hk
  | sh d => exact ok d e1 G' H' v n q
  | ol ds =>
    obtain ⟨p, xs, rfl, h0, g1, h1, q⟩ := q
    have m := n.show h0 h1 g1
    refine ok (.list ds) e1 (upd G' p (.lst xs)) H' _ m ?_
    have x : Ex G' (upd G' p (.lst xs)) := Ex.new g1
    exact Dp.lst (.inl (.inl upd_same)) (DpAll.ex x q)
  | od kvs => exact absurd rfl hk
  | exn x => exact absurd rfl hk
  | hal _ _ => exact absurd rfl hk
end

/-! ### names, constants -/
def slB : Option Sl → Rs PyData
  | some (.sh d) => .ok d
  | some (.ol ds) => .ok (.list ds)
  | _ => .stuck
def slS : Option Sl → Rs PyData
  | some (.sh d) => .ok d
  | _ => .stuck
def fVarB (i : Nat) : Env → Rs PyData := fun ρ => slB ρ[i]?
def fVarS (i : Nat) : Env → Rs PyData := fun ρ => slS ρ[i]?
def fC (d : PyData) : Env → Rs PyData := fun _ => .ok d
section
variable {ca : Nat → Addr} {X : Cx} {E : XK} {pos : Pos}
theorem jb_var (i : Nat) {x : Str} (h : PE X (.Name x pos) (tVar i)) : JB ca X E (.Name x pos) (tVar i) (fVarB i) := by
  refine ⟨h, fun G H ρ σ rep hns Q ok er => ?_⟩
  unfold fVarB at hns ok
  cases hs : ρ[i]? with
  | none => rw [hs] at hns; exact absurd rfl hns
  | some s =>
    rw [hs] at hns ok
    obtain ⟨o, e1, q⟩ := rep.sl i s hs
    cases s with
    | sh d =>
      obtain ⟨v, rfl, q⟩ := q
      exact ⟨v, e1, ok d rfl G H v (Nx.refl rep.gh) (.inl q)⟩
    | ol ds =>
      obtain ⟨p, xs, rfl, g1, h1, q⟩ := q
      exact ⟨_, e1, ok (.list ds) rfl G H _ (Nx.refl rep.gh) (.inr ⟨_, _, _, rfl, rfl, .inl (.inl h1), q⟩)⟩
    | no => exact absurd rfl hns
    | od _ => exact absurd rfl hns
    | exn _ => exact absurd rfl hns
    | hal _ _ => exact absurd rfl hns
theorem js_var (i : Nat) {x : Str} (h : PE X (.Name x pos) (tVar i)) : JS ca X E (.Name x pos) (tVar i) (fVarS i) := by
  refine ⟨h, fun G H ρ σ rep hns Q ok er => ?_⟩
  unfold fVarS at hns ok
  cases hs : ρ[i]? with
  | none => rw [hs] at hns; exact absurd rfl hns
  | some s =>
    rw [hs] at hns ok
    obtain ⟨o, e1, q⟩ := rep.sl i s hs
    cases s with
    | sh d =>
      obtain ⟨v, rfl, q⟩ := q
      exact ⟨v, e1, ok d rfl G H v (Nx.refl rep.gh) q⟩
    | ol ds => exact absurd rfl hns
    | no => exact absurd rfl hns
    | od _ => exact absurd rfl hns
    | exn _ => exact absurd rfl hns
    | hal _ _ => exact absurd rfl hns
theorem sem_c {c : Pc} {v : V} {d : PyData} (h : ∀ G, Dp c.K G v d) : SemG c E (tC v) (fC d) (RS c) :=
  fun G H ρ σ rep _ Q ok _ => ok d rfl G H v (Nx.refl rep.gh) (h G)
theorem js_int {i : Int} {j : Nat} : JS ca X E (.Constant (.int i) j pos) (tC (.int i)) (fC (.int i)) := ⟨pe_int, sem_c fun _ => .int i⟩
theorem js_bl {b : Bool} {j : Nat} : JS ca X E (.Constant (.bool b) j pos) (tC (.bl b)) (fC (.bool b)) := ⟨pe_bl, sem_c fun _ => .bl b⟩
theorem js_non {j : Nat} : JS ca X E (.Constant .none j pos) (tC .non) (fC .none) := ⟨pe_non, sem_c fun _ => .non⟩
end

/-! ### two-place operations -/
def fOp {α : Type} (f : PyData → PyData → Rs α) (Fa Fb : Env → Rs PyData) : Env → Rs α := fun ρ => Fa ρ >>= fun a => Fb ρ >>= fun b => f a b
/-- f is computed by the rule r -/
structure OpSem {α : Type} (c : Pc) (r : R2) (f : PyData → PyData → Rs α) (R : Rel V α) : Prop where
  go : ∀ G H x y a b s, Ex G H → Db c.K G H x a → Db c.K G H y b → f a b = .ok s → ∀ Q : VK, (∀ G' H' v, Nx G H G' H' → R G H G' H' v s → Q v H') → r x y H Q
  ne : ∀ a b x, f a b ≠ .err x
theorem sem_op {α : Type} {c : Pc} {E : XK} {r : R2} {f : PyData → PyData → Rs α} {R : Rel V α} {ta tb : TE} {Fa Fb : Env → Rs PyData} (hr : OpSem c r f R)
    (hR : ∀ G H G1 H1 G' H' v s, Nx G H G1 H1 → R G1 H1 G' H' v s → R G H G' H' v s) (ha : SemG c E ta Fa (RB c)) (hb : SemG c E tb Fb (RB c)) : SemG c E (tOp r ta tb) (fOp f Fa Fb) R := by
  intro G H ρ σ rep hns Q ok er
  refine ha.use rep hns er fun a ea e1 G1 H1 x n1 r1 q1 h1 er1 => ?_
  refine hb.use r1 h1 er1 fun b eb e2 G2 H2 y n2 r2 q2 h2 er2 => ?_
  cases hf : f a b with
  | stuck => exact absurd hf h2
  | err z => exact absurd hf (hr.ne a b z)
  | ok s =>
    refine hr.go G2 H2 x y a b s n2.gh (db_nx n2 q1) q2 hf Q fun G' H' v n3 q3 => ?_
    refine ok s ?_ G' H' v ((n1.trans n2).trans n3) (hR _ _ _ _ _ _ _ _ (n1.trans n2) q3)
    unfold fOp
    rw [e1, e2, hf]
theorem RS.mono {c : Pc} : ∀ (G H G1 H1 G' H' : Hp) (v : V) (s : PyData), Nx G H G1 H1 → RS c G1 H1 G' H' v s → RS c G H G' H' v s := fun _ _ _ _ _ _ _ _ _ h => h
theorem RV.mono' {c : Pc} : ∀ (G H G1 H1 G' H' : Hp) (v : V) (s : Sl), Nx G H G1 H1 → RV c G1 H1 G' H' v s → RV c G H G' H' v s := fun _ _ _ _ _ _ _ _ n h => RV.mono n h
def intOf : PyData → Rs Int
  | .int i => .ok i
  | _ => .stuck
/-- the ints' own operations -/
def iop (f : Int → Int → Rs PyData) : PyData → PyData → Rs PyData
  | .int a, .int b => f a b
  | _, _ => .stuck
theorem iop_ok {f : Int → Int → Rs PyData} {a b : PyData} {s : PyData} (h : iop f a b = .ok s) : ∃ i j, a = .int i ∧ b = .int j ∧ f i j = .ok s := by
  unfold iop at h
  split at h
  · exact ⟨_, _, rfl, rfl, h⟩
  · cases h
theorem iop_ne {f : Int → Int → Rs PyData} (hf : ∀ i j x, f i j ≠ .err x) : ∀ a b x, iop f a b ≠ .err x := fun a b x h => by
  unfold iop at h
  split at h
  · exact hf _ _ x h
  · cases h
theorem opsem_int {c : Pc} {C : Int → Int → Prop} {g : Int → Int → V} {f : Int → Int → Rs PyData} (hf : ∀ i j s, f i j = .ok s → C i j ∧ ∀ G, Dp c.K G (g i j) s) (hne : ∀ i j x, f i j ≠ .err x) : OpSem c (rI C g) (iop f) (RS c) where
  go := fun G H x y a b s e da db hs Q q => by
    obtain ⟨i, j, rfl, rfl, hs⟩ := iop_ok hs
    obtain ⟨h1, h2⟩ := hf i j s hs
    exact ⟨i, j, db_int da, db_int db, h1, q G H _ (Nx.refl e) (h2 G)⟩
  ne := iop_ne hne
theorem opsem_int0 {c : Pc} {g : Int → Int → V} {f : Int → Int → PyData} (hf : ∀ i j G, Dp c.K G (g i j) (f i j)) : OpSem c (rI0 g) (iop fun i j => .ok (f i j)) (RS c) where
  go := fun G H x y a b s e da db hs Q q => by
    obtain ⟨i, j, rfl, rfl, hs⟩ := iop_ok hs
    cases hs
    exact ⟨i, j, db_int da, db_int db, q G H _ (Nx.refl e) (hf i j G)⟩
  ne := iop_ne fun _ _ _ h => nomatch h
/-- how large a list may grow here -/
abbrev lim : Nat := 1000000
theorem lim_le {n : Nat} (h : n ≤ lim) : n ≤ sizeLine := Nat.le_trans h (by decide)
theorem lim_lt {n : Nat} (h : n < lim) : n < sizeLine := Nat.lt_of_lt_of_le h (by decide)
/-- + of ints, lists, tuples -/
def addD : PyData → PyData → Rs Sl
  | .int a, .int b => .ok (.sh (.int (a + b)))
  | .list xs, .list ys => if xs.length + ys.length ≤ lim then .ok (.ol (xs ++ ys)) else .stuck
  | .tuple xs, .tuple ys => if xs.length + ys.length ≤ lim then .ok (.sh (.tuple (xs ++ ys))) else .stuck
  | _, _ => .stuck
def rAddA (K : PySem.W.Frag) : R2 := fun x y H Q => (rI0 (fun i j => .int (i + j)) x y H Q ∨ (∃ a b xs ys, x = .ref a ∧ y = .ref b ∧ SqL K H a xs ∧ SqL K H b ys ∧ xs.length + ys.length ≤ sizeLine ∧ ∀ p, H p = none → Q (.ref p) (upd H p (.lst (xs ++ ys))))) ∨ rCatA K x y H Q
theorem opsem_add {c : Pc} : OpSem c (rAddA c.K) addD (RV c) where
  go := fun G H x y a b s e da db hs Q q => by
    unfold addD at hs
    split at hs
    · cases hs
      exact .inl (.inl ⟨_, _, db_int da, db_int db, q G H _ (Nx.refl e) (.int _)⟩)
    · split at hs
      · rename_i xs ys hl
        cases hs
        obtain ⟨p, vs, rfl, hv, av⟩ := db_list e da
        obtain ⟨r, ws, rfl, hw, aw⟩ := db_list e db
        exact .inl (.inr ⟨p, r, vs, ws, rfl, rfl, hv, hw, lim_le (by rw [DpAll.length av, DpAll.length aw]; exact hl), fun l hl =>
          q G _ _ (Nx.hid e hl) ⟨l, _, rfl, hl, e.back hl, upd_same, DpAll.append av aw⟩⟩)
      · cases hs
    · split at hs
      · rename_i xs ys hl
        cases hs
        obtain ⟨p, vs, rfl, hv, av⟩ := db_tups da
        obtain ⟨r, ws, rfl, hw, aw⟩ := db_tups db
        have lv := DpAll.length av
        have lw := DpAll.length aw
        refine .inr ⟨p, r, vs, ws, rfl, rfl, Ex.sqt e (tup_sqt hv), Ex.sqt e (tup_sqt hw), lim_le (by rw [lv, lw]; exact hl), fun z => ?_, fun z1 z2 => ?_, fun z1 z2 l hl => ?_⟩
        · subst z
          cases av
          exact q G H _ (Nx.refl e) (.tup hw aw)
        · subst z2
          cases aw
          rw [List.append_nil] at q
          exact q G H _ (Nx.refl e) (.tup hv av)
        · exact q _ _ _ (Nx.new e hl) (.tup upd_same (DpAll.ex (Ex.new (e.back hl)) (DpAll.append av aw)))
      · cases hs
    · cases hs
  ne := fun a b x h => by
    unfold addD at h
    split at h
    · cases h
    · split at h <;> cases h
    · split at h <;> cases h
    · cases h
end PF

namespace PF
open PySem L2

/-! ### operators of the machine -/
def mulOk (i j : Int) : Prop := i.natAbs.log2 < 64 ∨ j.natAbs.log2 < 64 ∨ i.natAbs.log2 + j.natAbs.log2 < 134217000
instance (i j : Int) : Decidable (mulOk i j) := by unfold mulOk; infer_instance
theorem mulOk.ok {i j : Int} (h : mulOk i j) : IntMulOk i j := by
  have b : ∀ x : Int, Builtin.Int.intBits x ≤ x.natAbs.log2 + 1 := fun x => by
    unfold Builtin.Int.intBits
    split <;> omega
  have h1 := b i
  have h2 := b j
  rcases h with h | h | h
  · exact IntMulOk.of_left (by omega)
  · exact IntMulOk.of_right (by omega)
  · have e : bitsLine = 134217728 := by decide
    unfold IntMulOk
    intro z
    rw [Bool.and_eq_true] at z
    have z2 := z.2
    unfold Builtin.Int.intTooBig at z2
    have z3 := of_decide_eq_true z2
    rw [e] at z3
    omega
def divOk (i j : Int) : Prop := j ≠ 0 ∧ Builtin.divisionGoesByPylong i j = false
instance (i j : Int) : Decidable (divOk i j) := by unfold divOk; infer_instance
def powOk (i j : Int) : Prop := 0 ≤ j ∧ j ≤ 1000000 ∧ i.natAbs < 2 ^ 64
instance (i j : Int) : Decidable (powOk i j) := by unfold powOk; infer_instance
section
variable {X : Cx}
theorem op_mulP : OpR X (binaryOp .Mult) (rI mulOk fun i j => .int (i * j)) := opI fun _ _ _ _ _ _ _ hc q => PyProof.Rows.mul_int q hc.ok
theorem op_divP : OpR X (binaryOp .FloorDiv) (rI divOk fun i j => .int (i.fdiv j)) := opI fun i j _ _ _ _ _ hc q => PyProof.Rows.floordiv_int hc.1 q (.inl hc.2)
def rCatL (K : PySem.W.Frag) : R2 := fun x y H Q => ∃ a b xs ys, x = .ref a ∧ y = .ref b ∧ SqL K H a xs ∧ SqL K H b ys ∧ xs.length + ys.length ≤ sizeLine ∧ ∀ p, H p = none → Q (.ref p) (upd H p (.lst (xs ++ ys)))
open PyProof.Rows in
theorem op_catL : OpR X (binaryOp .Add) (rCatL X.K) := by
  intro pins s σ H x y v u Q I rx ry h
  obtain ⟨a, b, xs, ys, rfl, rfl, ha, hb, hz, q⟩ := h
  cases rx
  cases ry
  obtain ⟨its, r1, ⟨⟨cls, dd, data, sl⟩, n, ho, hc, _, hd⟩, z1⟩ := I.list ha
  obtain ⟨its2, r2, ⟨⟨cls2, dd2, data2, sl2⟩, n2, ho2, hc2, _, hd2⟩, z2⟩ := I.list hb
  simp only at hc hd hc2 hd2
  subst hc hd hc2 hd2
  have e1 := r1.length
  have e2 := r2.length
  refine concat_meets ⟨_, ho, rfl⟩ ⟨_, ho2, rfl⟩ noFill_list_add seq_list_add PySem.F.slot_list_add PySem.F.entry_list_add (PySem.F.args_list_add_2 _ _)
    (list_addW a b its.toArray its2.toArray n n2 dd dd2 sl sl2 (by rw [List.size_toArray, List.size_toArray]; omega)) ⟨ho, ho2, ?_⟩
  have ea : its.toArray ++ its2.toArray = (its ++ its2).toArray := by simp
  rw [ea]
  exact ⟨.ref _, _, I.lnew (t' := s.toks) (r1.append r2) (by rw [List.length_append]; omega), rfl, q _ I.fresh⟩
theorem op_addA : OpR X (binaryOp .Add) (rAddA X.K) := (op_add.or op_catL).or op_catA
end

/-! ### ints -/
def subD : PyData → PyData → Rs PyData := iop fun i j => .ok (.int (i - j))
def mulD : PyData → PyData → Rs PyData := iop fun i j => if mulOk i j then .ok (.int (i * j)) else .stuck
def divD : PyData → PyData → Rs PyData := iop fun i j => if divOk i j then .ok (.int (i.fdiv j)) else .stuck
def modD : PyData → PyData → Rs PyData := iop fun i j => if j ≠ 0 then .ok (.int (i.fmod j)) else .stuck
def powD : PyData → PyData → Rs PyData := iop fun i j => if powOk i j then .ok (.int (i ^ j.toNat)) else .stuck
def ltD : PyData → PyData → Rs PyData := iop fun i j => .ok (.bool (decide (i < j)))
def leD : PyData → PyData → Rs PyData := iop fun i j => .ok (.bool (decide (i ≤ j)))
def gtD : PyData → PyData → Rs PyData := iop fun i j => .ok (.bool (decide (j < i)))
def geD : PyData → PyData → Rs PyData := iop fun i j => .ok (.bool (decide (j ≤ i)))
theorem opsem_if {c : Pc} {C : Int → Int → Prop} [∀ i j, Decidable (C i j)] {g : Int → Int → Int} : OpSem c (rI C fun i j => .int (g i j)) (iop fun i j => if C i j then .ok (.int (g i j)) else .stuck) (RS c) :=
  opsem_int (fun i j s h => by
    split at h
    · rename_i hc
      cases h
      exact ⟨hc, fun _ => .int _⟩
    · cases h) (fun i j x h => by split at h <;> cases h)
section
variable {c : Pc}
theorem opsem_sub : OpSem c (rI0 fun i j => .int (i - j)) subD (RS c) := opsem_int0 fun _ _ _ => .int _
theorem opsem_mul : OpSem c (rI mulOk fun i j => .int (i * j)) mulD (RS c) := opsem_if
theorem opsem_div : OpSem c (rI divOk fun i j => .int (i.fdiv j)) divD (RS c) := opsem_if
theorem opsem_mod : OpSem c (rI (fun _ j => j ≠ 0) fun i j => .int (i.fmod j)) modD (RS c) := opsem_if (C := fun _ j => j ≠ 0)
theorem opsem_pow : OpSem c (rI CPow fun i j => .int (i ^ j.toNat)) powD (RS c) := opsem_if (C := powOk)
theorem opsem_lt : OpSem c (rI0 fun i j => .bl (decide (i < j))) ltD (RS c) := opsem_int0 fun _ _ _ => .bl _
theorem opsem_le : OpSem c (rI0 fun i j => .bl (decide (i ≤ j))) leD (RS c) := opsem_int0 fun _ _ _ => .bl _
theorem opsem_gt : OpSem c (rI0 fun i j => .bl (decide (j < i))) gtD (RS c) := opsem_int0 fun _ _ _ => .bl _
theorem opsem_ge : OpSem c (rI0 fun i j => .bl (decide (j ≤ i))) geD (RS c) := opsem_int0 fun _ _ _ => .bl _
end
/-! ### == and in, of data -/
def eqD (a b : PyData) : Rs PyData := if SeqAt.shaped a = true ∧ SeqAt.shaped b = true then .ok (.bool (PyData.eqv a b)) else .stuck
def neD (a b : PyData) : Rs PyData := if SeqAt.shaped a = true ∧ SeqAt.shaped b = true then .ok (.bool (!PyData.eqv a b)) else .stuck
def inD (a b : PyData) : Rs PyData := match b with
  | .list ds => if SeqAt.shaped a = true ∧ SeqAt.shaped (.list ds) = true then .ok (.bool (ds.any fun z => PyData.eqv z a)) else .stuck
  | _ => .stuck
def ninD (a b : PyData) : Rs PyData := match b with
  | .list ds => if SeqAt.shaped a = true ∧ SeqAt.shaped (.list ds) = true then .ok (.bool (!ds.any fun z => PyData.eqv z a)) else .stuck
  | _ => .stuck
def isNo : PyData → Bool
  | .none => true
  | _ => false
def isND (a b : PyData) : Rs PyData := match b with
  | .none => .ok (.bool (isNo a))
  | _ => .stuck
def notND (a b : PyData) : Rs PyData := match b with
  | .none => .ok (.bool (!isNo a))
  | _ => .stuck
section
variable {c : Pc}
theorem opsem_eq : OpSem c (rEqD c.K) eqD (RS c) where
  go := fun G H x y a b s e da db hs Q q => by
    unfold eqD at hs
    split at hs
    · rename_i h
      cases hs
      exact ⟨a, b, (db_h e da).weak, (db_h e db).weak, h.1, h.2, q G H _ (Nx.refl e) (.bl _)⟩
    · cases hs
  ne := fun a b x h => by unfold eqD at h; split at h <;> cases h
theorem opsem_ne : OpSem c (rNeD c.K) neD (RS c) where
  go := fun G H x y a b s e da db hs Q q => by
    unfold neD at hs
    split at hs
    · rename_i h
      cases hs
      exact ⟨a, b, (db_h e da).weak, (db_h e db).weak, h.1, h.2, q G H _ (Nx.refl e) (.bl _)⟩
    · cases hs
  ne := fun a b x h => by unfold neD at h; split at h <;> cases h
theorem opsem_in : OpSem c (rInD c.K) inD (RS c) where
  go := fun G H x y a b s e da db hs Q q => by
    unfold inD at hs
    split at hs
    · rename_i ds
      split at hs
      · rename_i h
        cases hs
        exact ⟨a, ds, (db_h e da).weak, (db_h e db).weak, h.1, h.2, q G H _ (Nx.refl e) (.bl _)⟩
      · cases hs
    · cases hs
  ne := fun a b x h => by
    unfold inD at h
    split at h
    · split at h <;> cases h
    · cases h
theorem opsem_nin : OpSem c (rNotInD c.K) ninD (RS c) where
  go := fun G H x y a b s e da db hs Q q => by
    unfold ninD at hs
    split at hs
    · rename_i ds
      split at hs
      · rename_i h
        cases hs
        exact ⟨a, ds, (db_h e da).weak, (db_h e db).weak, h.1, h.2, q G H _ (Nx.refl e) (.bl _)⟩
      · cases hs
    · cases hs
  ne := fun a b x h => by
    unfold ninD at h
    split at h
    · split at h <;> cases h
    · cases h
theorem db_isNo {K : PySem.W.Frag} {G H : Hp} {v : V} {d : PyData} (h : Db K G H v d) : decide (v = .non) = isNo d := by
  rcases h with h | ⟨a, xs, ds, rfl, rfl, _⟩
  · cases h <;> rfl
  · rfl
theorem opsem_isN : OpSem c (fun x y H Q => y = .non ∧ Q (.bl (decide (x = .non))) H) isND (RS c) where
  go := fun G H x y a b s e da db hs Q q => by
    unfold isND at hs
    split at hs
    · cases hs
      exact ⟨db_non db, q G H _ (Nx.refl e) (by rw [db_isNo da]; exact .bl _)⟩
    · cases hs
  ne := fun a b x h => by unfold isND at h; split at h <;> cases h
theorem opsem_notN : OpSem c (fun x y H Q => y = .non ∧ Q (.bl (!decide (x = .non))) H) notND (RS c) where
  go := fun G H x y a b s e da db hs Q q => by
    unfold notND at hs
    split at hs
    · cases hs
      exact ⟨db_non db, q G H _ (Nx.refl e) (by rw [db_isNo da]; exact .bl _)⟩
    · cases hs
  ne := fun a b x h => by unfold notND at h; split at h <;> cases h
end

/-! ### tests -/
def boolOf : PyData → Rs Bool
  | .bool b => .ok b
  | _ => .stuck
def fB (F : Env → Rs PyData) : Env → Rs Bool := fun ρ => F ρ >>= boolOf
theorem sem_test {c : Pc} {E : XK} {t : TE} {F : Env → Rs PyData} (h : SemG c E t F (RS c)) : SemG c E (fun σ H Q => t σ H fun x H1 => ∃ k, x = .bl k ∧ Q k H1) (fB F) RT := by
  intro G H ρ σ rep hns Q ok er
  refine h.use rep hns er fun a ea e1 G' H' v n _ q hk _ => ?_
  cases a with
  | bool b => exact ⟨b, Dp.bl_v q, ok b e1 G' H' b n rfl⟩
  | none => exact absurd rfl hk
  | int i => exact absurd rfl hk
  | str i => exact absurd rfl hk
  | list i => exact absurd rfl hk
  | tuple i => exact absurd rfl hk
  | dict i => exact absurd rfl hk
def fNot (F : Env → Rs Bool) : Env → Rs Bool := fun ρ => F ρ >>= fun b => .ok (!b)
def fAnd (F G : Env → Rs Bool) : Env → Rs Bool := fun ρ => F ρ >>= fun b => if b = true then G ρ else .ok false
def fOr (F G : Env → Rs Bool) : Env → Rs Bool := fun ρ => F ρ >>= fun b => if b = true then .ok true else G ρ
structure JW (ca : Nat → Addr) (X : Cx) (E : XK) (e : Expr) (t : TT) (F : Env → Rs Bool) : Prop where
  pw : PW X e t
  sem : SemG ⟨X.K, ca⟩ E t F RT
section
variable {ca : Nat → Addr} {X : Cx} {E : XK} {a b e : Expr} {ta tb : TT} {te tf : TE} {pos : Pos} {rest : List Expr}
theorem jt_val {F : Env → Rs PyData} (h : JS ca X E e te F) (he : ∀ whole, isTrue e X.env whole = (do let v ← whole; standAt e.pos; holding [v] (truthy v)) := by intro _; rfl) : JT ca X E e (tB te) (fB F) :=
  ⟨pt_val h.pe he, sem_test h.sem⟩
theorem jt_not {F : Env → Rs Bool} (h : JT ca X E a ta F) : JT ca X E (.UnaryOp .Not a pos) (tNot ta) (fNot F) :=
  ⟨pt_not h.pt, fun G H ρ σ rep hns Q ok er => h.sem.use rep hns er fun x ea e1 G' H' v n _ q hk _ => by
    cases q
    exact ok _ e1 G' H' _ n rfl⟩
theorem jw_and1 {F : Env → Rs Bool} (h : JT ca X E a ta F) : JW ca X E (.BoolOp .And [a] pos) ta F := ⟨pw_and1 h.pt, h.sem⟩
theorem jw_or1 {F : Env → Rs Bool} (h : JT ca X E a ta F) : JW ca X E (.BoolOp .Or [a] pos) ta F := ⟨pw_or1 h.pt, h.sem⟩
theorem jw_and {F F' : Env → Rs Bool} (h : JT ca X E a ta F) (h' : JW ca X E (.BoolOp .And (b :: rest) pos) tb F') : JW ca X E (.BoolOp .And (a :: b :: rest) pos) (tAnd ta tb) (fAnd F F') :=
  ⟨pw_and h.pt h'.pw, fun G H ρ σ rep hns Q ok er => h.sem.use rep hns er fun x ea e1 G' H' v n r q hk er' => by
    cases q
    cases x with
    | true =>
      show tb σ H' Q
      refine h'.sem G' H' ρ σ r hk Q (fun y ey G2 H2 u n2 q2 => ok y (e1.trans ey) G2 H2 u (n.trans n2) q2) er'
    | false =>
      show Q false H'
      exact ok false e1 G' H' false n rfl⟩
theorem jw_or {F F' : Env → Rs Bool} (h : JT ca X E a ta F) (h' : JW ca X E (.BoolOp .Or (b :: rest) pos) tb F') : JW ca X E (.BoolOp .Or (a :: b :: rest) pos) (tOr ta tb) (fOr F F') :=
  ⟨pw_or h.pt h'.pw, fun G H ρ σ rep hns Q ok er => h.sem.use rep hns er fun x ea e1 G' H' v n r q hk er' => by
    cases q
    cases x with
    | false =>
      show tb σ H' Q
      refine h'.sem G' H' ρ σ r hk Q (fun y ey G2 H2 u n2 q2 => ok y (e1.trans ey) G2 H2 u (n.trans n2) q2) er'
    | true =>
      show Q true H'
      exact ok true e1 G' H' true n rfl⟩
theorem jt_w {F : Env → Rs Bool} (h : JW ca X E a ta F) : JT ca X E a ta F := ⟨h.pw.pt, h.sem⟩
/-- as values -/
def fAndV (F G : Env → Rs PyData) : Env → Rs PyData := fun ρ => F ρ >>= fun a => boolOf a >>= fun b => if b = true then G ρ else .ok (.bool false)
def fOrV (F G : Env → Rs PyData) : Env → Rs PyData := fun ρ => F ρ >>= fun a => boolOf a >>= fun b => if b = true then .ok (.bool true) else G ρ
def fNotV (F : Env → Rs PyData) : Env → Rs PyData := fun ρ => F ρ >>= fun a => boolOf a >>= fun b => .ok (.bool (!b))
theorem boolOf_ok {a : PyData} {β : Type} {k : Bool → Rs β} (h : (boolOf a >>= k) ≠ .stuck) : ∃ b, a = .bool b := by
  cases a with
  | bool b => exact ⟨b, rfl⟩
  | none => exact absurd rfl h
  | int i => exact absurd rfl h
  | str i => exact absurd rfl h
  | list i => exact absurd rfl h
  | tuple i => exact absurd rfl h
  | dict i => exact absurd rfl h
theorem js_one {op : BoolOp} {F : Env → Rs PyData} (h : JS ca X E a te F) : JS ca X E (.BoolOp op [a] pos) te F := ⟨pe_one h.pe, h.sem⟩
theorem js_and {F F' : Env → Rs PyData} (h : JS ca X E a te F) (h' : JS ca X E (.BoolOp .And (b :: rest) pos) tf F') : JS ca X E (.BoolOp .And (a :: b :: rest) pos) (tAndV te tf) (fAndV F F') :=
  ⟨pe_and h.pe h'.pe, fun G H ρ σ rep hns Q ok er => h.sem.use rep hns er fun x ea e1 G' H' v n r q hk er' => by
    obtain ⟨k, rfl⟩ := boolOf_ok hk
    refine ⟨k, Dp.bl_v q, ?_⟩
    cases k with
    | true =>
      show tf σ H' Q
      exact h'.sem G' H' ρ σ r hk Q (fun y ey G2 H2 u n2 q2 => ok y (e1.trans ey) G2 H2 u (n.trans n2) q2) er'
    | false =>
      show Q (.bl false) H'
      exact ok (.bool false) e1 G' H' _ n (.bl _)⟩
theorem js_or {F F' : Env → Rs PyData} (h : JS ca X E a te F) (h' : JS ca X E (.BoolOp .Or (b :: rest) pos) tf F') : JS ca X E (.BoolOp .Or (a :: b :: rest) pos) (tOrV te tf) (fOrV F F') :=
  ⟨pe_or h.pe h'.pe, fun G H ρ σ rep hns Q ok er => h.sem.use rep hns er fun x ea e1 G' H' v n r q hk er' => by
    obtain ⟨k, rfl⟩ := boolOf_ok hk
    refine ⟨k, Dp.bl_v q, ?_⟩
    cases k with
    | false =>
      show tf σ H' Q
      exact h'.sem G' H' ρ σ r hk Q (fun y ey G2 H2 u n2 q2 => ok y (e1.trans ey) G2 H2 u (n.trans n2) q2) er'
    | true =>
      show Q (.bl true) H'
      exact ok (.bool true) e1 G' H' _ n (.bl _)⟩
theorem js_not {F : Env → Rs PyData} (h : JS ca X E a te F) : JS ca X E (.UnaryOp .Not a pos) (tNotV te) (fNotV F) :=
  ⟨pe_not h.pe, fun G H ρ σ rep hns Q ok er => h.sem.use rep hns er fun x ea e1 G' H' v n r q hk er' => by
    obtain ⟨k, rfl⟩ := boolOf_ok hk
    exact ⟨k, Dp.bl_v q, ok (.bool (!k)) e1 G' H' _ n (.bl _)⟩⟩
end

/-! ### the operators as judgements -/
section
variable {ca : Nat → Addr} {X : Cx} {E : XK} {a b : Expr} {ta tb : TE} {Fa Fb : Env → Rs PyData} {pos : Pos}
theorem js_bin {op : Operator} {r : R2} {f : PyData → PyData → Rs PyData} (ho : OpR X (binaryOp op) r) (hs : OpSem ⟨X.K, ca⟩ r f (RS ⟨X.K, ca⟩)) (ha : JB ca X E a ta Fa) (hb : JB ca X E b tb Fb) : JS ca X E (.BinOp a op b pos) (tOp r ta tb) (fOp f Fa Fb) :=
  ⟨pe_op ho ha.pe hb.pe, sem_op hs RS.mono ha.sem hb.sem⟩
theorem jv_add (ha : JB ca X E a ta Fa) (hb : JB ca X E b tb Fb) : JV ca X E (.BinOp a .Add b pos) (tOp (rAddA X.K) ta tb) (fOp addD Fa Fb) :=
  ⟨pe_op op_addA ha.pe hb.pe, sem_op opsem_add RV.mono' ha.sem hb.sem⟩
theorem js_sub (ha : JB ca X E a ta Fa) (hb : JB ca X E b tb Fb) : JS ca X E (.BinOp a .Sub b pos) (tOp (rI0 fun i j => .int (i - j)) ta tb) (fOp subD Fa Fb) := js_bin op_sub opsem_sub ha hb
theorem js_mul (ha : JB ca X E a ta Fa) (hb : JB ca X E b tb Fb) : JS ca X E (.BinOp a .Mult b pos) (tOp (rI mulOk fun i j => .int (i * j)) ta tb) (fOp mulD Fa Fb) := js_bin op_mulP opsem_mul ha hb
theorem js_div (ha : JB ca X E a ta Fa) (hb : JB ca X E b tb Fb) : JS ca X E (.BinOp a .FloorDiv b pos) (tOp (rI divOk fun i j => .int (i.fdiv j)) ta tb) (fOp divD Fa Fb) := js_bin op_divP opsem_div ha hb
theorem js_mod (ha : JB ca X E a ta Fa) (hb : JB ca X E b tb Fb) : JS ca X E (.BinOp a .Mod b pos) (tOp (rI (fun _ j => j ≠ 0) fun i j => .int (i.fmod j)) ta tb) (fOp modD Fa Fb) := js_bin op_modN opsem_mod ha hb
theorem js_pow (ha : JB ca X E a ta Fa) (hb : JB ca X E b tb Fb) : JS ca X E (.BinOp a .Pow b pos) (tOp (rI CPow fun i j => .int (i ^ j.toNat)) ta tb) (fOp powD Fa Fb) := js_bin op_pow opsem_pow ha hb
theorem js_cmp {op : CmpOp} {r : R2} {f : PyData → PyData → Rs PyData} (ho : OpR X (compareOp op) r) (hs : OpSem ⟨X.K, ca⟩ r f (RS ⟨X.K, ca⟩)) (hm : behindInMarks op b = false) (ha : JB ca X E a ta Fa) (hb : JB ca X E b tb Fb) : JS ca X E (.Compare a [op] [b] pos) (tOp r ta tb) (fOp f Fa Fb) :=
  ⟨pe_cmpR ho ha.pe hb.pe hm, sem_op hs RS.mono ha.sem hb.sem⟩
theorem jt_cmp {op : CmpOp} {r : R2} {f : PyData → PyData → Rs PyData} (ho : OpR X (compareOp op) r) (hs : OpSem ⟨X.K, ca⟩ r f (RS ⟨X.K, ca⟩)) (hm : behindInMarks op b = false) (ha : JB ca X E a ta Fa) (hb : JB ca X E b tb Fb) : JT ca X E (.Compare a [op] [b] pos) (tTest (tOp r ta tb)) (fB (fOp f Fa Fb)) :=
  ⟨pt_cmpR ho ha.pe hb.pe hm, sem_test (sem_op hs RS.mono ha.sem hb.sem)⟩
/-- -a -/
def negD : PyData → Rs PyData
  | .int i => .ok (.int (-i))
  | _ => .stuck
def fUn {α β : Type} (f : α → Rs β) (F : Env → Rs α) : Env → Rs β := fun ρ => F ρ >>= f
theorem js_neg (ha : JB ca X E a ta Fa) : JS ca X E (.UnaryOp .USub a pos) (tUn (rU fun i => .int (-i)) ta) (fUn negD Fa) :=
  ⟨pe_un un_neg ha.pe, fun G H ρ σ rep hns Q ok er => ha.sem.use rep hns er fun x ea e1 G' H' v n r q hk er' => by
    cases x with
    | int i => exact ⟨i, db_int q, ok _ e1 G' H' _ n (.int _)⟩
    | none => exact absurd rfl hk
    | bool i => exact absurd rfl hk
    | str i => exact absurd rfl hk
    | list i => exact absurd rfl hk
    | tuple i => exact absurd rfl hk
    | dict i => exact absurd rfl hk⟩
end
/-! ### arguments, displays -/
def fNil : Env → Rs (List PyData) := fun _ => .ok []
def fCons (F : Env → Rs PyData) (Fs : Env → Rs (List PyData)) : Env → Rs (List PyData) := fun ρ => F ρ >>= fun d => Fs ρ >>= fun ds => .ok (d :: ds)
def lstD (ds : List PyData) : Rs Sl := if ds.length ≤ lim then .ok (.ol ds) else .stuck
def tupD (ds : List PyData) : Rs PyData := if ds.length ≤ lim then .ok (.tuple ds) else .stuck
section
variable {ca : Nat → Addr} {X : Cx} {E : XK} {e : Expr} {es : List Expr} {te : TE} {t : TA} {F : Env → Rs PyData} {Fs : Env → Rs (List PyData)} {pos : Pos}
theorem ja_nil : JA ca X E [] tNil fNil := ⟨pa_nil, fun G H ρ σ rep hns Q ok er => ok [] rfl G H [] (Nx.refl rep.gh) .nil⟩
theorem ja_cons (h : JS ca X E e te F) (h' : JA ca X E es t Fs) (hs : starEach (e :: es) X.env = (false, eval e X.env) :: starEach es X.env := by rfl) : JA ca X E (e :: es) (tCons te t) (fCons F Fs) :=
  ⟨pa_cons h.pe h'.pa hs, fun G H ρ σ rep hns Q ok er => h.sem.use rep hns er fun x ea e1 G1 H1 v n1 r1 q1 hk1 er1 => h'.sem.use r1 hk1 er1 fun xs exs e2 G2 H2 vs n2 r2 q2 hk2 er2 =>
    ok (x :: xs) (e1.trans e2) G2 H2 _ (n1.trans n2) (.cons (Dp.ex n2.g q1) q2)⟩
theorem jv_lst (h : JA ca X E es t Fs) : JV ca X E (.List es pos) (tLst t) (fUn lstD Fs) :=
  ⟨pe_lst h.pa, fun G H ρ σ rep hns Q ok er => h.sem.use rep hns er fun x ea e1 G' H' v n r q hk er' => by
    by_cases hl : x.length ≤ lim
    · have e2 : lstD x = .ok (.ol x) := if_pos hl
      exact ⟨lim_le (by rw [DpAll.length q]; exact hl), fun p hp => ok (.ol x) (e1.trans e2) G' _ _ (n.trans (Nx.hid n.gh hp)) ⟨p, v, rfl, n.h.back hp, n.gh.back hp, upd_same, q⟩⟩
    · exact absurd (if_neg hl) hk⟩
theorem js_tup {x1} (h : JA ca X E es t Fs) : JS ca X E (.Tuple es x1 pos) (tTup t) (fUn tupD Fs) :=
  ⟨pe_tup h.pa, fun G H ρ σ rep hns Q ok er => h.sem.use rep hns er fun x ea e1 G' H' v n r q hk er' => by
    by_cases hl : x.length ≤ lim
    · have e2 : tupD x = .ok (.tuple x) := if_pos hl
      refine ⟨lim_le (by rw [DpAll.length q]; exact hl), fun p hp => ok (.tuple x) (e1.trans e2) (upd G' p (.tup v)) _ _ (n.trans (Nx.new n.gh hp)) (.tup upd_same (DpAll.ex (Ex.new (n.gh.back hp)) q))⟩
    · exact absurd (if_neg hl) hk⟩
end
end PF

namespace PF
open PySem L2

/-! ### items and slices -/
def getP (ds : List PyData) (i : Int) : Rs PyData := match atI ds i with
  | some d => .ok d
  | none => .stuck
def ixD (a b : PyData) : Rs PyData := match a, b with
  | .list ds, .int i => getP ds i
  | .tuple ds, .int i => getP ds i
  | _, _ => .stuck
theorem at_dp {K : PySem.W.Frag} {G : Hp} {xs : List V} {ds : List PyData} {i : Int} {d : PyData} (h : DpAll K G xs ds) (e : getP ds i = .ok d) : ∃ v, atI xs i = some v ∧ Dp K G v d := by
  unfold getP at e
  split at e
  · rename_i z hz
    cases e
    unfold atI at hz ⊢
    rw [DpAll.length h]
    cases hn : ixN ds.length i with
    | none => rw [hn] at hz; cases hz
    | some j =>
      rw [hn] at hz
      rw [Option.bind_some] at hz ⊢
      exact DpAll.getD h hz
  · cases e
theorem getP_ne {ds : List PyData} {i : Int} {x : Exn} : getP ds i ≠ .err x := by unfold getP; split <;> exact fun h => nomatch h
theorem opsem_ix {c : Pc} : OpSem c (rIx c.K) ixD (RS c) where
  go := fun G H x y a b s e da db hs Q q => by
    unfold ixD at hs
    split at hs
    · obtain ⟨p, xs, rfl, hx, ax⟩ := db_list e da
      obtain ⟨v, hv, dv⟩ := at_dp ax hs
      exact .inl ⟨p, xs, _, v, rfl, db_int db, hx, hv, q G H v (Nx.refl e) dv⟩
    · obtain ⟨p, xs, rfl, hx, ax⟩ := db_tup da
      obtain ⟨v, hv, dv⟩ := at_dp ax hs
      exact .inr (.inl ⟨p, xs, _, v, rfl, db_int db, Ex.sqt e hx, hv, q G H v (Nx.refl e) dv⟩)
    · cases hs
  ne := fun a b x h => by
    unfold ixD at h
    split at h
    · exact getP_ne h
    · exact getP_ne h
    · cases h
def cutP (ds : List PyData) (lo hi : Option Int) : List PyData := (ds.drop (HT.sIx ds.length 0 lo)).take (HT.sIx ds.length ds.length hi - HT.sIx ds.length 0 lo)
theorem cut_dp {K : PySem.W.Frag} {G : Hp} {xs : List V} {ds : List PyData} (lo hi : Option Int) (h : DpAll K G xs ds) : DpAll K G (cutV xs lo hi) (cutP ds lo hi) := by
  unfold cutV cutP
  rw [DpAll.length h]
  exact DpAll.take _ (DpAll.drop _ h)
def slD (a : PyData) (lo hi : Option Int) : Rs Sl := match a with
  | .list ds => .ok (.ol (cutP ds lo hi))
  | .tuple ds => .ok (.sh (.tuple (cutP ds lo hi)))
  | _ => .stuck
def rSlAll (K : PySem.W.Frag) : V → Option Int → Option Int → Hp → VK → Prop := fun x lo hi H Q => rSlL K x lo hi H Q ∨ rSlA K x lo hi H Q
def fSl (F : Env → Rs PyData) (Fl Fh : Env → Rs (Option Int)) : Env → Rs Sl := fun ρ => F ρ >>= fun a => Fl ρ >>= fun l => Fh ρ >>= fun h => slD a l h
def fNone : Env → Rs (Option Int) := fun _ => .ok none
def fSome (F : Env → Rs PyData) : Env → Rs (Option Int) := fun ρ => F ρ >>= fun d => intOf d >>= fun i => .ok (some i)
theorem intOf_ok {a : PyData} {β : Type} {k : Int → Rs β} (h : (intOf a >>= k) ≠ .stuck) : ∃ b, a = .int b := by
  cases a with
  | int b => exact ⟨b, rfl⟩
  | none => exact absurd rfl h
  | bool i => exact absurd rfl h
  | str i => exact absurd rfl h
  | list i => exact absurd rfl h
  | tuple i => exact absurd rfl h
  | dict i => exact absurd rfl h
section
variable {ca : Nat → Addr} {X : Cx} {E : XK} {a b : Expr} {ta tb : TE} {Fa Fb : Env → Rs PyData} {pos p2 : Pos} {lo hi : Option Expr} {tl th : TO} {Fl Fh : Env → Rs (Option Int)}
theorem js_ix (ha : JB ca X E a ta Fa) (hb : JB ca X E b tb Fb) (hs : PlainIx b := by exact fun _ _ => rfl) : JS ca X E (.Subscript a b pos) (tOp (rIx X.K) ta tb) (fOp ixD Fa Fb) :=
  ⟨pe_ix ix_seq ha.pe hb.pe hs, sem_op opsem_ix RS.mono ha.sem hb.sem⟩
theorem jo_none : JO ca X E none tNoPart fNone := ⟨po_none, fun G H ρ σ rep hns Q ok er => ok none rfl G H none (Nx.refl rep.gh) rfl⟩
theorem jo_some (ha : JB ca X E a ta Fa) : JO ca X E (some a) (tPart ta) (fSome Fa) :=
  ⟨po_some ha.pe, fun G H ρ σ rep hns Q ok er => ha.sem.use rep hns er fun x ea e1 G' H' v n r q hk er' => by
    obtain ⟨i, rfl⟩ := intOf_ok hk
    exact ⟨i, db_int q, ok (some i) e1 G' H' _ n rfl⟩⟩
theorem jv_slice (ha : JB ca X E a ta Fa) (hl : JO ca X E lo tl Fl) (hh : JO ca X E hi th Fh) : JV ca X E (.Subscript a (.Slice lo hi none p2) pos) (tSl (rSlAll X.K) ta tl th) (fSl Fa Fl Fh) :=
  ⟨pe_slice (sl_list.or sl_tupA) ha.pe hl.po hh.po, fun G H ρ σ rep hns Q ok er => ha.sem.use rep hns er fun x ea e1 G1 H1 v n1 r1 q1 hk1 er1 => hl.sem.use r1 hk1 er1 fun l el e2 G2 H2 vl n2 r2 q2 hk2 er2 => hh.sem.use r2 hk2 er2 fun h eh e3 G3 H3 vh n3 r3 q3 hk3 er3 => by
    cases q2
    cases q3
    have q := db_nx (n2.trans n3) q1
    have ee := (e1.trans e2).trans e3
    have nn := (n1.trans n2).trans n3
    cases x with
    | list ds =>
      obtain ⟨p, xs, rfl, hx, ax⟩ := db_list n3.gh q
      exact .inl ⟨p, xs, rfl, hx, fun p' hp => ok _ ee G3 _ _ (nn.trans (Nx.hid n3.gh hp)) ⟨p', _, rfl, nn.h.back hp, n3.gh.back hp, upd_same, cut_dp _ _ ax⟩⟩
    | tuple ds =>
      obtain ⟨p, xs, rfl, hx, ax⟩ := db_tups q
      have le := DpAll.length ax
      refine .inr ⟨p, xs, rfl, Ex.sqt n3.gh (tup_sqt hx), fun hw => ?_, fun hw p' hp => ok _ ee (upd G3 p' (.tup (cutV xs l h))) _ _ (nn.trans (Nx.new n3.gh hp)) (.tup upd_same (DpAll.ex (Ex.new (n3.gh.back hp)) (cut_dp _ _ ax)))⟩
      refine ok _ ee G3 H3 _ nn ?_
      have e0 : cutP ds l h = ds := by
        rw [le] at hw
        unfold cutP
        rw [hw.1, hw.2, List.drop_zero, Nat.sub_zero, List.take_length]
      rw [e0]
      exact .tup hx ax
    | none => exact absurd rfl hk3
    | bool i => exact absurd rfl hk3
    | int i => exact absurd rfl hk3
    | str i => exact absurd rfl hk3
    | dict i => exact absurd rfl hk3⟩
end

/-! ### calls of built-ins by values -/
structure CallSem {α : Type} (c : Pc) (r : List V → Hp → VK → Prop) (f : PyData → Rs α) (R : Rel V α) : Prop where
  go : ∀ G H x a s, Ex G H → Db c.K G H x a → f a = .ok s → ∀ Q : VK, (∀ G' H' v, Nx G H G' H' → R G H G' H' v s → Q v H') → r [x] H Q
  ne : ∀ a x, f a ≠ .err x
theorem sem_call1 {α : Type} {c : Pc} {E : XK} {r : List V → Hp → VK → Prop} {f : PyData → Rs α} {R : Rel V α} {ta : TE} {Fa : Env → Rs PyData} (hr : CallSem c r f R)
    (hR : ∀ G H G1 H1 G' H' v s, Nx G H G1 H1 → R G1 H1 G' H' v s → R G H G' H' v s) (ha : SemG c E ta Fa (RB c)) : SemG c E (tCB r (tCons ta tNil)) (fUn f Fa) R := by
  intro G H ρ σ rep hns Q ok er
  refine ha.use rep hns er fun a ea e1 G1 H1 x n1 r1 q1 h1 er1 => ?_
  cases hf : f a with
  | stuck => exact absurd hf h1
  | err z => exact absurd hf (hr.ne a z)
  | ok s =>
    refine hr.go G1 H1 x a s n1.gh q1 hf Q fun G' H' v n3 q3 => ?_
    refine ok s ?_ G' H' v (n1.trans n3) (hR _ _ _ _ _ _ _ _ n1 q3)
    unfold fUn
    rw [e1, hf]
structure CallSem2 {α : Type} (c : Pc) (r : List V → Hp → VK → Prop) (f : PyData → PyData → Rs α) (R : Rel V α) : Prop where
  go : ∀ G H x y a b s, Ex G H → Db c.K G H x a → Db c.K G H y b → f a b = .ok s → ∀ Q : VK, (∀ G' H' v, Nx G H G' H' → R G H G' H' v s → Q v H') → r [x, y] H Q
  ne : ∀ a b x, f a b ≠ .err x
theorem sem_call2 {α : Type} {c : Pc} {E : XK} {r : List V → Hp → VK → Prop} {f : PyData → PyData → Rs α} {R : Rel V α} {ta tb : TE} {Fa Fb : Env → Rs PyData} (hr : CallSem2 c r f R)
    (hR : ∀ G H G1 H1 G' H' v s, Nx G H G1 H1 → R G1 H1 G' H' v s → R G H G' H' v s) (ha : SemG c E ta Fa (RB c)) (hb : SemG c E tb Fb (RB c)) : SemG c E (tCB r (tCons ta (tCons tb tNil))) (fOp f Fa Fb) R := by
  intro G H ρ σ rep hns Q ok er
  refine ha.use rep hns er fun a ea e1 G1 H1 x n1 r1 q1 h1 er1 => ?_
  refine hb.use r1 h1 er1 fun b eb e2 G2 H2 y n2 r2 q2 h2 er2 => ?_
  cases hf : f a b with
  | stuck => exact absurd hf h2
  | err z => exact absurd hf (hr.ne a b z)
  | ok s =>
    refine hr.go G2 H2 x y a b s n2.gh (db_nx n2 q1) q2 hf Q fun G' H' v n3 q3 => ?_
    refine ok s ?_ G' H' v ((n1.trans n2).trans n3) (hR _ _ _ _ _ _ _ _ (n1.trans n2) q3)
    unfold fOp
    rw [e1, e2, hf]
def lenD : PyData → Rs PyData
  | .list ds => .ok (.int ds.length)
  | .tuple ds => .ok (.int ds.length)
  | _ => .stuck
def absD : PyData → Rs PyData
  | .int i => .ok (.int (if i < 0 then -i else i))
  | _ => .stuck
def int1D : PyData → Rs PyData
  | .int i => .ok (.int i)
  | .bool b => .ok (.int (if b then 1 else 0))
  | _ => .stuck
def listD : PyData → Rs Sl
  | .list ds => .ok (.ol ds)
  | .tuple ds => .ok (.ol ds)
  | _ => .stuck
def tupleD : PyData → Rs PyData
  | .list ds => .ok (.tuple ds)
  | .tuple ds => .ok (.tuple ds)
  | _ => .stuck
def min2D : PyData → PyData → Rs PyData := iop fun i j => .ok (.int (if j < i then j else i))
def max2D : PyData → PyData → Rs PyData := iop fun i j => .ok (.int (if j > i then j else i))
section
variable {c : Pc}
theorem callsem_len : CallSem c (fun xs H Q => ∃ p ys, xs = [.ref p] ∧ (SqL c.K H p ys ∨ SqT c.K H p ys) ∧ Q (.int ys.length) H) lenD (RS c) where
  go := fun G H x a s e da hs Q q => by
    unfold lenD at hs
    split at hs
    · cases hs
      obtain ⟨p, xs, rfl, hx, ax⟩ := db_list e da
      exact ⟨p, xs, rfl, .inl hx, q G H _ (Nx.refl e) (by rw [DpAll.length ax]; exact .int _)⟩
    · cases hs
      obtain ⟨p, xs, rfl, hx, ax⟩ := db_tup da
      exact ⟨p, xs, rfl, .inr (Ex.sqt e hx), q G H _ (Nx.refl e) (by rw [DpAll.length ax]; exact .int _)⟩
    · cases hs
  ne := fun a x h => by unfold lenD at h; split at h <;> cases h
theorem callsem_abs : CallSem c (fun xs H Q => ∃ i, xs = [.int i] ∧ Q (.int (if i < 0 then -i else i)) H) absD (RS c) where
  go := fun G H x a s e da hs Q q => by
    unfold absD at hs
    split at hs
    · cases hs
      exact ⟨_, by rw [db_int da], q G H _ (Nx.refl e) (.int _)⟩
    · cases hs
  ne := fun a x h => by unfold absD at h; split at h <;> cases h
theorem callsem_int : CallSem c (fun xs H Q => (∃ i, xs = [.int i] ∧ Q (.int i) H) ∨ ∃ k, xs = [.bl k] ∧ Q (.int (if k then 1 else 0)) H) int1D (RS c) where
  go := fun G H x a s e da hs Q q => by
    unfold int1D at hs
    split at hs
    · cases hs
      exact .inl ⟨_, by rw [db_int da], q G H _ (Nx.refl e) (.int _)⟩
    · cases hs
      exact .inr ⟨_, by rw [db_bl da], q G H _ (Nx.refl e) (.int _)⟩
    · cases hs
  ne := fun a x h => by unfold int1D at h; split at h <;> cases h
theorem callsem_list : CallSem c (fun xs H Q => ∃ p ys, xs = [.ref p] ∧ (SqL c.K H p ys ∨ SqT c.K H p ys) ∧ ∀ l, H l = none → Q (.ref l) (upd H l (.lst ys))) listD (RV c) where
  go := fun G H x a s e da hs Q q => by
    unfold listD at hs
    split at hs
    · cases hs
      obtain ⟨p, xs, rfl, hx, ax⟩ := db_list e da
      exact ⟨p, xs, rfl, .inl hx, fun l hl => q G _ _ (Nx.hid e hl) ⟨l, xs, rfl, hl, e.back hl, upd_same, ax⟩⟩
    · cases hs
      obtain ⟨p, xs, rfl, hx, ax⟩ := db_tup da
      exact ⟨p, xs, rfl, .inr (Ex.sqt e hx), fun l hl => q G _ _ (Nx.hid e hl) ⟨l, xs, rfl, hl, e.back hl, upd_same, ax⟩⟩
    · cases hs
  ne := fun a x h => by unfold listD at h; split at h <;> cases h
theorem callsem_tuple : CallSem c (fun xs H Q => ∃ p ys, xs = [.ref p] ∧ ((SqL c.K H p ys ∧ ∀ l, H l = none → Q (.ref l) (upd H l (.tup ys))) ∨ (SqT c.K H p ys ∧ Q (.ref p) H))) tupleD (RS c) where
  go := fun G H x a s e da hs Q q => by
    unfold tupleD at hs
    split at hs
    · cases hs
      obtain ⟨p, xs, rfl, hx, ax⟩ := db_list e da
      exact ⟨p, xs, rfl, .inl ⟨hx, fun l hl => q _ _ _ (Nx.new e hl) (.tup upd_same (DpAll.ex (Ex.new (e.back hl)) ax))⟩⟩
    · cases hs
      obtain ⟨p, xs, rfl, hx, ax⟩ := db_tups da
      exact ⟨p, xs, rfl, .inr ⟨Ex.sqt e (tup_sqt hx), q G H _ (Nx.refl e) (.tup hx ax)⟩⟩
    · cases hs
  ne := fun a x h => by unfold tupleD at h; split at h <;> cases h
theorem callsem_min : CallSem2 c (fun xs H Q => ∃ i j, xs = [.int i, .int j] ∧ Q (.int (if j < i then j else i)) H) min2D (RS c) where
  go := fun G H x y a b s e da db hs Q q => by
    obtain ⟨i, j, rfl, rfl, hs⟩ := iop_ok hs
    cases hs
    exact ⟨i, j, by rw [db_int da, db_int db], q G H _ (Nx.refl e) (.int _)⟩
  ne := iop_ne fun _ _ _ h => nomatch h
theorem callsem_max : CallSem2 c (fun xs H Q => ∃ i j, xs = [.int i, .int j] ∧ Q (.int (if j > i then j else i)) H) max2D (RS c) where
  go := fun G H x y a b s e da db hs Q q => by
    obtain ⟨i, j, rfl, rfl, hs⟩ := iop_ok hs
    cases hs
    exact ⟨i, j, by rw [db_int da, db_int db], q G H _ (Nx.refl e) (.int _)⟩
  ne := iop_ne fun _ _ _ h => nomatch h
end
/-- sum of a list of ints -/
def intsOf : List PyData → Rs (List Int)
  | [] => .ok []
  | d :: ds => intOf d >>= fun i => intsOf ds >>= fun is => .ok (i :: is)
def sumD : PyData → Rs PyData
  | .list ds => intsOf ds >>= fun is => .ok (.int is.sum)
  | _ => .stuck
theorem intOf_eq {d : PyData} {i : Int} (h : intOf d = .ok i) : d = .int i := by
  unfold intOf at h
  split at h <;> cases h
  rfl
theorem intsOf_ne : ∀ (ds : List PyData) (x : Exn), intsOf ds ≠ .err x
  | [], x, h => by cases h
  | d :: ds, x, h => by
    cases hd : intOf d with
    | stuck => rw [show intsOf (d :: ds) = (intOf d >>= fun i => intsOf ds >>= fun is => .ok (i :: is)) from rfl, hd] at h; cases h
    | err y => unfold intOf at hd; split at hd <;> cases hd
    | ok i =>
      rw [show intsOf (d :: ds) = (intOf d >>= fun i => intsOf ds >>= fun is => .ok (i :: is)) from rfl, hd] at h
      cases hs : intsOf ds with
      | stuck => rw [ok_bind, hs] at h; cases h
      | err y => exact intsOf_ne ds y hs
      | ok is => rw [ok_bind, hs] at h; cases h
theorem intsOf_eq : ∀ {ds : List PyData} {is : List Int}, intsOf ds = .ok is → ds = is.map .int
  | [], is, h => by cases h; rfl
  | d :: ds, is, h => by
    rw [show intsOf (d :: ds) = (intOf d >>= fun i => intsOf ds >>= fun is => .ok (i :: is)) from rfl] at h
    cases hd : intOf d with
    | stuck => rw [hd] at h; cases h
    | err y => rw [hd] at h; cases h
    | ok i =>
      rw [hd, ok_bind] at h
      cases hs : intsOf ds with
      | stuck => rw [hs] at h; cases h
      | err y => rw [hs] at h; cases h
      | ok js =>
        rw [hs, ok_bind] at h
        cases h
        rw [intOf_eq hd, intsOf_eq hs]
        rfl
theorem dpall_ints {K : PySem.W.Frag} {G : Hp} : ∀ {xs : List V} {is : List Int}, DpAll K G xs (is.map .int) → xs = is.map .int
  | _, [], h => by cases h; rfl
  | _, i :: is, h => by
    cases h with
    | cons h a => rw [Dp.int_v h, dpall_ints a]; rfl
theorem callsem_sum {c : Pc} : CallSem c (rSum c.K) sumD (RS c) where
  go := fun G H x a s e da hs Q q => by
    unfold sumD at hs
    split at hs
    · rename_i ds
      cases hi : intsOf ds with
      | stuck => rw [hi] at hs; cases hs
      | err y => rw [hi] at hs; cases hs
      | ok is =>
        rw [hi, ok_bind] at hs
        cases hs
        obtain ⟨p, xs, rfl, hx, ax⟩ := db_list e da
        rw [intsOf_eq hi] at ax
        rw [dpall_ints ax] at hx
        exact ⟨p, is, rfl, hx, q G H _ (Nx.refl e) (.int _)⟩
    · cases hs
  ne := fun a x h => by
    unfold sumD at h
    split at h
    · rename_i ds
      cases hi : intsOf ds with
      | stuck => rw [hi] at h; cases h
      | err y => exact intsOf_ne ds y hi
      | ok is => rw [hi] at h; cases h
    · cases h
/-! ### the class of a value -/
def tyN : PyData → String
  | .none => "NoneType"
  | .bool _ => "bool"
  | .int _ => "int"
  | .str _ => "str"
  | .list _ => "list"
  | .tuple _ => "tuple"
  | .dict _ => "dict"
theorem db_ty {K : PySem.W.Frag} {G H : Hp} {v : V} {d : PyData} (e : Ex G H) (h : Db K G H v d) : TyX K H v (.type (tyN d)) := by
  have h := db_h e h
  cases h with
  | non => exact .base .non
  | bl b => exact .base (.bl b)
  | int i => exact .base (.int i)
  | str x => exact .base (.str x)
  | lst hx a =>
    rcases hx with (h | ⟨o, h⟩) | ⟨o, its, n, h, hc, _⟩
    · exact .base (.lst h)
    · exact .base (.frz h)
    · exact .kList h hc
  | tup hx a => exact .base (.tup hx)
def isiD (T : String) (d : PyData) : Rs PyData := match kitB (tyN d) T with
  | some b => .ok (.bool b)
  | none => .stuck
theorem kit_int (d : PyData) : isiD "int" d = .ok (.bool (match d with | .int _ => true | .bool _ => true | _ => false)) := by cases d <;> rfl
theorem kit_bool (d : PyData) : isiD "bool" d = .ok (.bool (match d with | .bool _ => true | _ => false)) := by cases d <;> rfl
theorem kit_list (d : PyData) : isiD "list" d = .ok (.bool (match d with | .list _ => true | _ => false)) := by cases d <;> rfl
theorem kit_tuple (d : PyData) : isiD "tuple" d = .ok (.bool (match d with | .tuple _ => true | _ => false)) := by cases d <;> rfl
end PF

namespace PF
open PySem L2

/-! ### statements -/
inductive Out where
  | nx (ρ : Env)
  | rt (s : Sl)
def SemP (c : Pc) (E : XK) (t : TS) (F : Env → Rs Out) : Prop :=
  ∀ (G0 H0 G H : Hp) (ρ : Env) (σ : L2.St), Rep c G H ρ σ → Ent G0 H0 G H ρ σ → F ρ ≠ .stuck → ∀ D : Ends,
    (∀ ρ', F ρ = .ok (.nx ρ') → ∀ G' H' σ', Rep c G' H' ρ' σ' → Ent G0 H0 G' H' ρ' σ' → D.nx σ' H') →
    (∀ s, F ρ = .ok (.rt s) → ∀ G' H' v, Nx G0 H0 G' H' → RV c G0 H0 G' H' v s → D.rt v H') → ErrP c E G0 H0 (F ρ) → t D σ H
structure JP (ca : Nat → Addr) (X : Cx) (E : XK) (st : Stmt) (t : TS) (F : Env → Rs Out) : Prop where
  ps : PS X st t
  sem : SemP ⟨X.K, ca⟩ E t F
structure JPs (ca : Nat → Addr) (X : Cx) (E : XK) (sts : List Stmt) (t : TS) (F : Env → Rs Out) : Prop where
  ps : PSs X sts t
  sem : SemP ⟨X.K, ca⟩ E t F
def after (r : Rs Out) (k : Env → Rs Out) : Rs Out := r >>= fun o => match o with
  | .nx ρ => k ρ
  | .rt s => .ok (.rt s)
theorem after_nx {ρ : Env} {k : Env → Rs Out} : after (.ok (.nx ρ)) k = k ρ := rfl
theorem after_rt {s : Sl} {k : Env → Rs Out} : after (.ok (.rt s)) k = .ok (.rt s) := rfl
/-- a statement, what follows is k -/
theorem SemP.use {c : Pc} {E : XK} {t : TS} {F : Env → Rs Out} (h : SemP c E t F) {k : Env → Rs Out} {G0 H0 G H : Hp} {ρ : Env} {σ : L2.St} (rep : Rep c G H ρ σ) (en : Ent G0 H0 G H ρ σ) (hns : after (F ρ) k ≠ .stuck) {D : Ends}
    (go : ∀ ρ', F ρ = .ok (.nx ρ') → after (F ρ) k = k ρ' → ∀ G' H' σ', Rep c G' H' ρ' σ' → Ent G0 H0 G' H' ρ' σ' → D.nx σ' H')
    (rt : ∀ s, after (F ρ) k = .ok (.rt s) → ∀ G' H' v, Nx G0 H0 G' H' → RV c G0 H0 G' H' v s → D.rt v H') (er : ErrP c E G0 H0 (after (F ρ) k)) : t D σ H := by
  refine h G0 H0 G H ρ σ rep en (fun z => hns (by rw [z]; rfl)) D (fun ρ' e => go ρ' e (by rw [e]; rfl)) (fun s e => rt s (by rw [e]; rfl)) fun x e => er x (by rw [e]; rfl)
def fSeq (F G : Env → Rs Out) : Env → Rs Out := fun ρ => after (F ρ) G
def fSkip : Env → Rs Out := fun ρ => .ok (.nx ρ)
/-- a list of our own is shown from now on -/
def fzSl : Option Sl → Option Sl
  | some (.ol ds) => some (.sh (.list ds))
  | _ => none
def fz1 (i : Nat) (ρ : Env) : Env := match fzSl ρ[i]? with
  | some s => ρ.set i s
  | none => ρ
theorem fz_rep {c : Pc} {G0 H0 G H : Hp} {ρ : Env} {σ : L2.St} (i : Nat) (rep : Rep c G H ρ σ) (en : Ent G0 H0 G H ρ σ) : ∃ G', Rep c G' H (fz1 i ρ) σ ∧ Ent G0 H0 G' H (fz1 i ρ) σ := by
  unfold fz1
  cases hs : ρ[i]? with
  | none => exact ⟨G, rep, en⟩
  | some s =>
    cases s with
    | no => exact ⟨G, rep, en⟩
    | sh d => exact ⟨G, rep, en⟩
    | od kvs => exact ⟨G, rep, en⟩
    | exn x => exact ⟨G, rep, en⟩
    | hal _ _ => exact ⟨G, rep, en⟩
    | ol ds =>
      show ∃ G', Rep c G' H (ρ.set i (.sh (.list ds))) σ ∧ Ent G0 H0 G' H (ρ.set i (.sh (.list ds))) σ
      obtain ⟨o, e1, p, xs, rfl, gp, hp, q⟩ := rep.sl i _ hs
      have h0 := en.own i _ p hs rfl e1
      have x : Ex G (upd G p (.lst xs)) := Ex.new gp
      have m : Nx G0 H0 (upd G p (.lst xs)) H := en.nx.show h0 hp gp
      have old : ∀ (j : Nat) u, (ρ.set i (.sh (.list ds)))[j]? = some u → u.own = true → j ≠ i ∧ ρ[j]? = some u := fun j u e hu => by
        rw [List.getElem?_set] at e
        by_cases hij : i = j
        · rw [if_pos hij] at e
          split at e <;> cases e
          cases hu
        · rw [if_neg hij] at e
          exact ⟨fun z => hij z.symm, e⟩
      refine ⟨upd G p (.lst xs), ⟨m.gh, by rw [List.length_set, rep.len], fun j u e => ?_, fun j k u u' r a1 a2 w1 w2 f1 f2 => ?_⟩, ⟨m, fun j u r a w f => ?_⟩⟩
      · rw [List.getElem?_set] at e
        by_cases hij : i = j
        · rw [if_pos hij] at e
          split at e
          · cases e
            rw [← hij]
            exact ⟨_, e1, _, rfl, .lst (.inl (.inl upd_same)) (DpAll.ex x q)⟩
          · cases e
        · rw [if_neg hij] at e
          obtain ⟨o, e2, q2⟩ := rep.sl j u e
          refine ⟨o, e2, ?_⟩
          have ne : ∀ b, o = some (.ref b) → u.own = true → b ≠ p := fun b eb hu z => by
            subst z
            rw [eb] at e2
            exact hij (rep.inj i j _ u b hs e rfl hu e1 e2)
          cases u with
          | no => trivial
          | sh d => obtain ⟨v, z1, z2⟩ := q2; exact ⟨v, z1, Dp.ex x z2⟩
          | ol es => obtain ⟨b, ys, z1, g1, z2, z3⟩ := q2; exact ⟨b, ys, z1, by rw [upd_ne (ne b z1 rfl)]; exact g1, z2, DpAll.ex x z3⟩
          | od es => obtain ⟨b, ys, z1, g1, z2, z3⟩ := q2; exact ⟨b, ys, z1, by rw [upd_ne (ne b z1 rfl)]; exact g1, z2, KvOk.ex x z3⟩
          | exn y => obtain ⟨v, z1, z2⟩ := q2; exact ⟨v, z1, z2.ex x⟩
          | hal m es => obtain ⟨b, dx, t, z1, g1, z2, z3⟩ := q2; exact ⟨b, dx, t, z1, by rw [upd_ne (fun w => by rw [w, hp] at z2; cases z2)]; exact g1, z2, Dp.ex x z3⟩
      · obtain ⟨_, b1⟩ := old j u a1 w1
        obtain ⟨_, b2⟩ := old k u' a2 w2
        exact rep.inj j k u u' r b1 b2 w1 w2 f1 f2
      · obtain ⟨_, b1⟩ := old j u a w
        exact en.own j u r b1 w f
/-- what a context is to be -/
structure CxOk (X : Cx) (E : XK) : Prop where
  calm : X.calm = true
  un : X.A.units + 200 < cLine
  nd : X.N.Nodup
  pas : PassesOwn (model X.prog X.w) X.A X.env X.xe
  call : Passes (L2.CX X.prog X.w) X E
  tk : Takes X (fun cls d _ H => E cls d H)
theorem CxOk.u64 {X : Cx} {E : XK} (o : CxOk X E) : X.A.units + 64 < cLine := by
  have := o.un
  omega
theorem CxOk.u65 {X : Cx} {E : XK} (o : CxOk X E) : X.A.units + 65 < cLine := by
  have := o.un
  omega
section
variable {ca : Nat → Addr} {X : Cx} {E : XK} {st : Stmt} {sts : List Stmt} {t u : TS} {F F' : Env → Rs Out}
theorem jps_fz (i : Nat) (h : JPs ca X E sts t F) : JPs ca X E sts t (fun ρ => F (fz1 i ρ)) :=
  ⟨h.ps, fun G0 H0 G H ρ σ rep en hns D nx rt er => by
    obtain ⟨G', rep', en'⟩ := fz_rep i rep en
    exact h.sem G0 H0 G' H _ σ rep' en' hns D nx rt er⟩
theorem jp_fz (i : Nat) (h : JP ca X E st t F) : JP ca X E st t (fun ρ => F (fz1 i ρ)) :=
  ⟨h.ps, fun G0 H0 G H ρ σ rep en hns D nx rt er => by
    obtain ⟨G', rep', en'⟩ := fz_rep i rep en
    exact h.sem G0 H0 G' H _ σ rep' en' hns D nx rt er⟩
theorem jps_nil : JPs ca X E [] tNext fSkip := ⟨pss_nil, fun G0 H0 G H ρ σ rep en hns D nx rt er => nx ρ rfl G H σ rep en⟩
theorem jps_one (h : JP ca X E st t F) : JPs ca X E [st] t F := ⟨pss_one h.ps, h.sem⟩
theorem jps_cons (h : JP ca X E st t F) (h' : JPs ca X E sts u F') : JPs ca X E (st :: sts) (tSeq t u) (fSeq F F') :=
  ⟨pss_cons h.ps h'.ps, fun G0 H0 G H ρ σ rep en hns D nx rt er => h.sem.use rep en hns (fun ρ' e1 e2 G' H' σ' rep' en' =>
      h'.sem G0 H0 G' H' ρ' σ' rep' en' (by rw [← e2]; exact hns) D (fun ρ2 e3 => nx ρ2 (e2.trans e3)) (fun s e3 => rt s (e2.trans e3)) (by rw [← e2]; exact er)) rt er⟩
theorem jp_pass {pos : Pos} : JP ca X E (.Pass pos) tNext fSkip := ⟨ps_pass, fun G0 H0 G H ρ σ rep en hns D nx rt er => nx ρ rfl G H σ rep en⟩
/-- what can't be met -/
def fNever : Env → Rs Out := fun _ => .stuck
theorem jp_never : JP ca X E st tNever fNever := ⟨ps_never, fun G0 H0 G H ρ σ rep en hns D nx rt er => absurd rfl hns⟩
end
/-! ### assignments, returns, tests -/
def fSet (i : Nat) (F : Env → Rs Sl) : Env → Rs Out := fun ρ => F ρ >>= fun s => .ok (.nx (ρ.set i s))
def fRet (F : Env → Rs Sl) : Env → Rs Out := fun ρ => F ρ >>= fun s => .ok (.rt s)
def slRet : Option Sl → Rs Sl
  | some (.sh d) => .ok (.sh d)
  | some (.ol ds) => .ok (.ol ds)
  | some (.od kvs) => .ok (.od kvs)
  | some (.exn x) => .ok (.exn x)
  | _ => .stuck
def fRetVar (i : Nat) : Env → Rs Out := fun ρ => slRet ρ[i]? >>= fun s => .ok (.rt s)
def fIf (F : Env → Rs Bool) (A B : Env → Rs Out) : Env → Rs Out := fun ρ => F ρ >>= fun b => if b = true then A ρ else B ρ
/-- a slot takes what an expression gave -/
theorem rep_take {c : Pc} {G0 H0 G H G' H' : Hp} {ρ : Env} {σ : L2.St} {v : V} {s : Sl} (i : Nat) (rep : Rep c G H ρ σ) (en : Ent G0 H0 G H ρ σ) (n : Nx G H G' H') (q : RV c G H G' H' v s) :
    Rep c G' H' (ρ.set i s) (σ.set i (some v)) ∧ Ent G0 H0 G' H' (ρ.set i s) (σ.set i (some v)) := by
  have r' := rep.nx n
  have fresh : ∀ p, H p = none → ∀ (j : Nat) u, j ≠ i → ρ[j]? = some u → u.own = true → σ[j]? ≠ some (some (.ref p)) := fun p hp j u _ e hu z => by
    obtain ⟨o, e1, q⟩ := rep.sl j u e
    rw [z] at e1
    cases e1
    cases u with
    | ol ds => obtain ⟨b, xs, z1, _, h1, _⟩ := q; cases z1; rw [hp] at h1; cases h1
    | od ds => obtain ⟨b, xs, z1, _, h1, _⟩ := q; cases z1; rw [hp] at h1; cases h1
    | no => cases hu
    | sh d => cases hu
    | exn x => cases hu
    | hal _ _ => cases hu
  have ent : ∀ (w : s.own = true → ∀ p, v = .ref p → H0 p = none), Ent G0 H0 G' H' (ρ.set i s) (σ.set i (some v)) := fun w => by
    refine ⟨en.nx.trans n, fun j u p e hu f => ?_⟩
    rw [List.getElem?_set] at e f
    by_cases hij : i = j
    · rw [if_pos hij] at e f
      split at e
      · cases e
        split at f
        · cases f
          exact w hu p rfl
        · cases f
      · cases e
    · rw [if_neg hij] at e f
      exact en.own j u p e hu f
  cases s with
  | no => exact q.elim
  | sh d => exact ⟨r'.set rfl ⟨v, rfl, q⟩, ent fun z => nomatch z⟩
  | ol ds =>
    obtain ⟨p, xs, rfl, h0, g1, h1, q⟩ := q
    exact ⟨r'.setOwn ⟨p, xs, rfl, g1, h1, q⟩ (fresh p h0), ent fun _ b e => by cases e; exact en.nx.h.back h0⟩
  | od ds =>
    obtain ⟨p, xs, rfl, h0, g1, h1, q⟩ := q
    exact ⟨r'.setOwn ⟨p, xs, rfl, g1, h1, q⟩ (fresh p h0), ent fun _ b e => by cases e; exact en.nx.h.back h0⟩
  | exn x => exact ⟨r'.set rfl ⟨v, rfl, q⟩, ent fun z => nomatch z⟩
  | hal _ _ => exact q.elim
theorem sem_set {c : Pc} {E : XK} {te : TE} {F : Env → Rs Sl} (i : Nat) (h : SemG c E te F (RV c)) : SemP c E (tAsg te (gName i)) (fSet i F) := by
  intro G0 H0 G H ρ σ rep en hns D nx rt er
  refine h.use rep hns (fun x e G' H' cl dd n => er x e G' H' cl dd (en.nx.trans n)) fun s es e1 G' H' v n _ q hk _ => ?_
  obtain ⟨r2, e2⟩ := rep_take i rep en n q
  exact nx _ e1 G' H' _ r2 e2
section
variable {ca : Nat → Addr} {X : Cx} {E : XK} {e : Expr} {te : TE} {F : Env → Rs Sl} {pos pos' : Pos}
theorem jp_set {i : Nat} {x : Str} (h : JV ca X E e te F) (hN : X.N.Nodup) (hi : X.N[i]? = some x) (hx : Loc X.env.scope x) (hs : swapsWith e (some (.Name x pos')) pos.line X.env = pure false := by rfl)
    (hf : X.fn x = true ∨ X.env.scope.names.lookup x = some .local := by first | exact .inl rfl | exact .inr rfl) : JP ca X E (.Assign [.Name x pos'] e pos) (tAsg te (gName i)) (fSet i F) :=
  ⟨ps_set hN hi hx h.pe hs hf, sem_set i h.sem⟩
theorem jp_ret (h : JV ca X E e te F) : JP ca X E (.Return (some e) pos) (tRet te) (fRet F) :=
  ⟨ps_ret h.pe, fun G0 H0 G H ρ σ rep en hns D nx rt er => h.sem.use rep hns (fun x e G' H' cl dd n => er x e G' H' cl dd (en.nx.trans n)) fun s es e1 G' H' v n _ q hk _ =>
    rt s e1 G' H' v (en.nx.trans n) (RV.mono en.nx q)⟩
theorem jp_retVar (i : Nat) {x : Str} (h : PE X (.Name x pos') (tVar i)) : JP ca X E (.Return (some (.Name x pos')) pos) (tRet (tVar i)) (fRetVar i) := by
  refine ⟨ps_ret h, fun G0 H0 G H ρ σ rep en hns D nx rt er => ?_⟩
  unfold fRetVar at hns rt
  cases hs : ρ[i]? with
  | none => rw [hs] at hns; exact absurd rfl hns
  | some s =>
    rw [hs] at hns rt
    obtain ⟨o, e1, q⟩ := rep.sl i s hs
    cases s with
    | no => exact absurd rfl hns
    | exn x =>
      obtain ⟨v, rfl, q⟩ := q
      exact ⟨v, e1, rt (.exn x) rfl G H v en.nx q⟩
    | hal _ _ => exact absurd rfl hns
    | sh d =>
      obtain ⟨v, rfl, q⟩ := q
      exact ⟨v, e1, rt (.sh d) rfl G H v en.nx q⟩
    | ol ds =>
      obtain ⟨p, xs, rfl, gp, hp, q⟩ := q
      exact ⟨_, e1, rt (.ol ds) rfl G H _ en.nx ⟨p, xs, rfl, en.own i _ p hs rfl e1, gp, hp, q⟩⟩
    | od ds =>
      obtain ⟨p, xs, rfl, gp, hp, q⟩ := q
      exact ⟨_, e1, rt (.od ds) rfl G H _ en.nx ⟨p, xs, rfl, en.own i _ p hs rfl e1, gp, hp, q⟩⟩
theorem jp_if {c : Expr} {a b : List Stmt} {tc : TT} {ta tb : TS} {Fc : Env → Rs Bool} {Fa Fb : Env → Rs Out} (hc : JT ca X E c tc Fc) (ha : JPs ca X E a ta Fa) (hb : JPs ca X E b tb Fb) : JP ca X E (.If c a b pos) (tIfS tc ta tb) (fIf Fc Fa Fb) :=
  ⟨ps_if hc.pt ha.ps hb.ps, fun G0 H0 G H ρ σ rep en hns D nx rt er => hc.sem.use rep hns (fun x e G' H' cl dd n => er x e G' H' cl dd (en.nx.trans n)) fun s es e1 G' H' v n r q hk _ => by
    cases q
    cases s with
    | true =>
      show ta D σ H'
      exact ha.sem G0 H0 G' H' ρ σ r (en.go n) hk D (fun ρ' e => nx ρ' (e1.trans e)) (fun s e => rt s (e1.trans e)) fun x e => er x (e1.trans e)
    | false =>
      show tb D σ H'
      exact hb.sem G0 H0 G' H' ρ σ r (en.go n) hk D (fun ρ' e => nx ρ' (e1.trans e)) (fun s e => rt s (e1.trans e)) fun x e => er x (e1.trans e)⟩
end
/-! ### a, b = x, y with plain local names -/
def fPar (i j : Nat) (F : Env → Rs (List PyData)) : Env → Rs Out := fun ρ => F ρ >>= fun ds => match ds with
  | [a, b] => .ok (.nx ((ρ.set i (.sh a)).set j (.sh b)))
  | _ => .stuck
section
variable {ca : Nat → Addr} {X : Cx} {E : XK}
theorem jp_par {i j : Nat} {x y : Str} {a b : Expr} {ta : TA} {F : Env → Rs (List PyData)} {px py pt pos : Pos} {kt k2 pt2} (ha : JA ca X E [a, b] ta F) (hc : X.calm = true) (hN : X.N.Nodup) (hi : X.N[i]? = some x) (hj : X.N[j]? = some y) (hij : i ≠ j)
    (hx : X.env.scope.names.lookup x = some .local) (hy : X.env.scope.names.lookup y = some .local)
    (hw : swappedStores [.Tuple [.Name x px, .Name y py] kt pt] (.Tuple [a, b] k2 pt2) X.env = pure (some [x, y]) := by rfl)
    (hs : swapsWithSole [.Tuple [.Name x px, .Name y py] kt pt] (.Tuple [a, b] k2 pt2) pos.line X.env = pure false := by rfl) :
    JP ca X E (.Assign [.Tuple [.Name x px, .Name y py] kt pt] (.Tuple [a, b] k2 pt2) pos) (tPar i j ta) (fPar i j F) :=
  ⟨ps_par hc hN hi hj hij hx hy ha.pa hw hs, fun G0 H0 G H ρ σ rep en hns D nx rt er => ha.sem.use rep hns (fun x e G' H' cl dd n => er x e G' H' cl dd (en.nx.trans n)) fun ds es e1 G' H' vs n r q hk _ => by
    have q : DpAll X.K G' vs ds := q
    match ds, vs, q with
    | [d, e], _, .cons q1 (.cons q2 .nil) =>
      refine ⟨_, _, rfl, ?_⟩
      obtain ⟨r1, n1⟩ := rep_take (s := .sh d) i rep en n q1
      obtain ⟨r2, n2⟩ := rep_take (s := .sh e) j r1 n1 (Nx.refl r1.gh) q2
      exact nx _ e1 G' H' _ r2 n2
    | [], _, _ => exact absurd rfl hk
    | [_], _, _ => exact absurd rfl hk
    | _ :: _ :: _ :: _, _, _ => exact absurd rfl hk⟩
end
/-! ### while -/
def whF (c : Env → Rs Bool) (b : Env → Rs Out) : Nat → Env → Rs Out
  | 0, _ => .stuck
  | n + 1, ρ => c ρ >>= fun k => if k = true then after (b ρ) (whF c b n) else .ok (.nx ρ)
theorem whF_mono {c : Env → Rs Bool} {b : Env → Rs Out} : ∀ (n m : Nat) (ρ : Env), n ≤ m → whF c b n ρ ≠ .stuck → whF c b m ρ = whF c b n ρ
  | 0, _, _, _, h => absurd rfl h
  | n + 1, 0, _, hl, _ => absurd hl (by omega)
  | n + 1, m + 1, ρ, hl, h => by
    unfold whF at h ⊢
    cases hc : c ρ with
    | stuck => rfl
    | err x => rfl
    | ok k =>
      rw [hc, ok_bind] at h
      rw [ok_bind, ok_bind]
      cases k with
      | false => rfl
      | true =>
        rw [if_pos rfl] at h
        rw [if_pos rfl, if_pos rfl]
        cases hb : b ρ with
        | stuck => rfl
        | err x => rfl
        | ok o =>
          cases o with
          | rt s => rfl
          | nx ρ' =>
            rw [hb, after_nx] at h
            rw [after_nx, after_nx]
            exact whF_mono n m ρ' (by omega) h
open Classical in
/-- the whole loop -/
noncomputable def whL (c : Env → Rs Bool) (b : Env → Rs Out) (ρ : Env) : Rs Out := if h : ∃ n, whF c b n ρ ≠ .stuck then whF c b (Classical.choose h) ρ else .stuck
theorem whL_of {c : Env → Rs Bool} {b : Env → Rs Out} {n : Nat} {ρ : Env} {r : Rs Out} (h : whF c b n ρ = r) (hr : r ≠ .stuck) : whL c b ρ = r := by
  have hx : ∃ n, whF c b n ρ ≠ .stuck := ⟨n, by rw [h]; exact hr⟩
  have e : whL c b ρ = whF c b (Classical.choose hx) ρ := dif_pos hx
  have h2 := Classical.choose_spec hx
  rw [e]
  by_cases hl : n ≤ Classical.choose hx
  · rw [whF_mono n _ ρ hl (by rw [h]; exact hr), h]
  · rw [← whF_mono _ n ρ (by omega) h2, h]
theorem whL_ex {c : Env → Rs Bool} {b : Env → Rs Out} {ρ : Env} (h : whL c b ρ ≠ .stuck) : ∃ n, whF c b n ρ = whL c b ρ := by
  by_cases hx : ∃ n, whF c b n ρ ≠ .stuck
  · exact ⟨Classical.choose hx, by unfold whL; rw [dif_pos hx]⟩
  · exact absurd (dif_neg hx) h
/-- one turn of it -/
theorem whL_eq (c : Env → Rs Bool) (b : Env → Rs Out) (ρ : Env) : whL c b ρ = (c ρ >>= fun k => if k = true then after (b ρ) (whL c b) else .ok (.nx ρ)) := by
  cases hc : c ρ with
  | stuck =>
    have : ∀ n, whF c b n ρ = .stuck := fun n => by cases n with
      | zero => rfl
      | succ n => unfold whF; rw [hc]; rfl
    exact dif_neg fun ⟨n, h⟩ => h (this n)
  | err x => exact whL_of (n := 1) (by unfold whF; rw [hc]; rfl) (fun z => nomatch z)
  | ok k =>
    rw [ok_bind]
    cases k with
    | false => exact whL_of (n := 1) (by unfold whF; rw [hc]; rfl) (fun z => nomatch z)
    | true =>
      rw [if_pos rfl]
      have e1 : ∀ n, whF c b (n + 1) ρ = after (b ρ) (whF c b n) := fun n => by
        show (c ρ >>= fun k => if k = true then after (b ρ) (whF c b n) else .ok (.nx ρ)) = _
        rw [hc, ok_bind, if_pos rfl]
      by_cases hx : after (b ρ) (whL c b) = .stuck
      · rw [hx]
        refine dif_neg fun ⟨n, h⟩ => ?_
        cases n with
        | zero => exact h rfl
        | succ n =>
          rw [e1] at h
          cases hb : b ρ with
          | stuck => rw [hb] at h; exact h rfl
          | err x => rw [hb] at hx; cases hx
          | ok o =>
            cases o with
            | rt s => rw [hb] at hx; cases hx
            | nx ρ' =>
              rw [hb, after_nx] at h hx
              rw [whL_of rfl h] at hx
              exact h hx
      · cases hb : b ρ with
        | stuck => rw [hb] at hx; exact absurd rfl hx
        | err x => exact whL_of (n := 1) (by rw [e1, hb]; rfl) (fun z => nomatch z)
        | ok o =>
          cases o with
          | rt s => exact whL_of (n := 1) (by rw [e1, hb]; rfl) (fun z => nomatch z)
          | nx ρ' =>
            rw [hb, after_nx] at hx
            obtain ⟨n, hn⟩ := whL_ex hx
            rw [after_nx]
            exact whL_of (n := n + 1) (by rw [e1, hb, after_nx, hn]) hx
section
variable {ca : Nat → Addr} {X : Cx} {E : XK} {pos : Pos}
theorem jp_while {c : Expr} {body : List Stmt} {tc : TT} {tb : TS} {Fc : Env → Rs Bool} {Fb : Env → Rs Out} (hc : JT ca X E c tc Fc) (hb : JPs ca X E body tb Fb) (hp : PassesOwn (model X.prog X.w) X.A X.env X.xe) : JP ca X E (.While c body [] pos) (tWhile tc tb) (whL Fc Fb) := by
  refine ⟨ps_while hp hc.pt hb.ps, fun G0 H0 G H ρ σ rep en hns D nx rt er => ?_⟩
  obtain ⟨n, hn⟩ := whL_ex hns
  refine ⟨fun m σ' H' => ∃ G' ρ', Rep ⟨X.K, ca⟩ G' H' ρ' σ' ∧ Ent G0 H0 G' H' ρ' σ' ∧ whF Fc Fb m ρ' = whL Fc Fb ρ, ⟨n, G, ρ, rep, en, hn⟩, fun m σ' H' h => ?_⟩
  obtain ⟨G', ρ', rep', en', hm⟩ := h
  cases m with
  | zero => exact absurd hm.symm hns
  | succ m =>
    have e0 : (Fc ρ' >>= fun k => if k = true then after (Fb ρ') (whF Fc Fb m) else .ok (.nx ρ')) = whL Fc Fb ρ := hm
    refine hc.sem.use rep' (by rw [e0]; exact hns) (fun x e G' H' cl dd n => er x (e0 ▸ e) G' H' cl dd (en'.nx.trans n)) fun k hk e1 G1 H1 v n1 r1 q hk1 _ => ?_
    cases q
    cases k with
    | false =>
      show D.nx σ' H1
      exact nx ρ' (e0.symm.trans e1) G1 H1 σ' r1 (en'.go n1)
    | true =>
      show ∃ N : L2.St → Hp → Prop, _
      rw [if_pos rfl] at e1 hk1
      have e2 : after (Fb ρ') (whF Fc Fb m) = whL Fc Fb ρ := e1.symm.trans e0
      refine ⟨fun σ2 H2 => ∃ G2 ρ2, Rep ⟨X.K, ca⟩ G2 H2 ρ2 σ2 ∧ Ent G0 H0 G2 H2 ρ2 σ2 ∧ whF Fc Fb m ρ2 = whL Fc Fb ρ, fun σ2 H2 h => ⟨m, Nat.lt_succ_self m, h⟩, ?_⟩
      exact hb.sem.use r1 (en'.go n1) hk1 (fun ρ2 e3 e4 G2 H2 σ2 rep2 en2 => ⟨G2, ρ2, rep2, en2, e4.symm.trans e2⟩) (fun s e3 => rt s (e2.symm.trans e3)) fun x e => er x (e2.symm.trans e)
end
/-! ### defs -/
def outV : Rs Out → Rs Sl
  | .ok (.nx _) => .ok (.sh .none)
  | .ok (.rt s) => .ok s
  | .err x => .err x
  | .stuck => .stuck
/-- a def's function: its parameters shared, its other names nothing -/
def fnOf (np n : Nat) (F : Env → Rs Out) (ds : List PyData) : Rs Sl := if ds.length = np then outV (F (ds.map Sl.sh ++ List.replicate (n - ds.length) Sl.no)) else .stuck
/-- the promise -/
def spF (c : Pc) (f : List PyData → Rs Sl) (np : Nat) : Sp := fun vs H Q E => ∃ G ds, Ex G H ∧ DpAll c.K G vs ds ∧ ds.length = np ∧ f ds ≠ .stuck ∧
  (∀ s, f ds = .ok s → ∀ G' H' v, Nx G H G' H' → RV c G H G' H' v s → Q v H') ∧ ErrP c E G H (f ds)
theorem start_rep {c : Pc} {G H : Hp} {N : List Str} {vs : List V} {ds : List PyData} (e : Ex G H) (a : DpAll c.K G vs ds) (hl : ds.length ≤ N.length) : Rep c G H (ds.map Sl.sh ++ List.replicate (N.length - ds.length) Sl.no) (L2.start N vs) := by
  have hv := DpAll.length a
  have noown : ∀ (i : Nat) s, (ds.map Sl.sh ++ List.replicate (N.length - ds.length) Sl.no)[i]? = some s → s.own = false := fun i s h => by
    have hm := List.mem_of_getElem? h
    rcases List.mem_append.mp hm with q | q
    · obtain ⟨d, _, rfl⟩ := List.mem_map.mp q
      rfl
    · rw [(List.mem_replicate.mp q).2]
      rfl
  refine ⟨e, ?_, fun i s h => ?_, fun i j s s' p h1 h2 w1 w2 => ?_⟩
  · unfold L2.start
    simp only [List.length_append, List.length_map, List.length_replicate]
    omega
  · unfold L2.start
    by_cases hi : i < ds.length
    · rw [List.getElem?_append_left (by rw [List.length_map]; exact hi), List.getElem?_map] at h
      cases hd : ds[i]? with
      | none => rw [hd] at h; cases h
      | some d =>
        rw [hd] at h
        cases h
        obtain ⟨v, hv, q⟩ := DpAll.getD a hd
        refine ⟨some v, ?_, v, rfl, q⟩
        rw [List.getElem?_append_left (by rw [List.length_map]; omega), List.getElem?_map, hv]
        rfl
    · rw [List.getElem?_append_right (by rw [List.length_map]; omega)] at h
      have hs := List.mem_of_getElem? h
      rw [(List.mem_replicate.mp hs).2]
      have hlt := (List.getElem?_eq_some_iff.mp h).1
      rw [List.length_map, List.length_replicate] at hlt
      refine ⟨none, ?_, trivial⟩
      rw [List.getElem?_append_right (by rw [List.length_map]; omega), List.getElem?_replicate, if_pos (by rw [List.length_map]; omega)]
  · rw [noown i s h1] at w1
    cases w1
theorem fnOf_len {np n : Nat} {F : Env → Rs Out} (ds : List PyData) (h : fnOf np n F ds ≠ .stuck) : ds.length = np := by
  unfold fnOf at h
  split at h
  · assumption
  · exact absurd rfl h
/-- THE RULE for a def -/
theorem fn_ok {P : Program} {w : World} {K : PySem.W.Frag} {mg : Str → Option Value} {base : Heap} {ca : Nat → Addr} {x qual : Str} {st : Stmt} {f : Addr} {fd : FuncData} {N ps : List Str} {k : Nat} (F : Fun K x qual st f fd) (S : FnScope N ps (defScope st)) (FF : Env → Rs Out)
    (hb : ∀ (cdv : Value) (A : Around) (outer : List PySem.Env) (s : Shared) (H : Hp) (E : XK), Room k (A.deeper (PyProof.Rows.envOfC qual (defScope st) s.heap.objs.size f cdv)) →
      CxOk (cxOf (L2.CX P w) P w K mg base N qual (defScope st) f cdv A outer s H E) E →
      ∃ t, JPs ca (cxOf (L2.CX P w) P w K mg base N qual (defScope st) f cdv A outer s H E) E (defBody st) t FF) (hnp : ps.length ≤ N.length := by decide) :
    FnOk P w K mg base (L2.CX P w) (k + 1) f fd ps (spF ⟨K, ca⟩ (fnOf ps.length N.length FF) ps.length) := by
  refine F.okX S (fun vs H Q E h => ?_) (fun cdv A outer s H vs Q E hr h => ?_)
  · obtain ⟨G, ds, _, a, e, _⟩ := h
    rw [DpAll.length a, e]
  · obtain ⟨G, ds, e, a, el, hns, hok, her⟩ := h
    have o : CxOk (cxOf (L2.CX P w) P w K mg base N qual (defScope st) f cdv A outer s H E) E :=
      ⟨rfl, by have := hr.un; show (A.deeper _).units + 200 < cLine; omega, S.nd, passes_of rfl, passes_call (takes_of rfl rfl rfl rfl) fun _ _ _ _ z => z, takes_of rfl rfl rfl rfl⟩
    obtain ⟨t, hps, hsem⟩ := hb cdv A outer s H E hr o
    refine ⟨t, hps, ?_⟩
    have rep : Rep ⟨K, ca⟩ G H (ds.map Sl.sh ++ List.replicate (N.length - ds.length) Sl.no) (L2.start N vs) := start_rep e a (by rw [el]; exact hnp)
    have ent : Ent G H G H (ds.map Sl.sh ++ List.replicate (N.length - ds.length) Sl.no) (L2.start N vs) := ⟨Nx.refl e, fun i s p h1 h2 h3 => by
      have hm := List.mem_of_getElem? h1
      rcases List.mem_append.mp hm with q | q
      · obtain ⟨d, _, rfl⟩ := List.mem_map.mp q
        cases h2
      · rw [(List.mem_replicate.mp q).2] at h2
        cases h2⟩
    have key : ∀ r, FF (ds.map Sl.sh ++ List.replicate (N.length - ds.length) Sl.no) = r → fnOf ps.length N.length FF ds = outV r := fun r z => by unfold fnOf; rw [if_pos el, z]
    refine hsem G H G H _ _ rep ent (fun z => hns (by rw [key _ z]; rfl)) _ (fun ρ' z G' H' σ' r' n' => ?_) (fun s z G' H' v n q => ?_) fun y z => ?_
    · exact hok (.sh .none) (by rw [key _ z]; rfl) G' H' .non n'.nx .non
    · exact hok s (by rw [key _ z]; rfl) G' H' v n q
    · exact her y (by rw [key _ z]; rfl)
/-- f(..) -/
def fCall (f : List PyData → Rs Sl) (F : Env → Rs (List PyData)) : Env → Rs Sl := fun ρ => F ρ >>= f
theorem sem_callF {c : Pc} {E : XK} {f : List PyData → Rs Sl} {np : Nat} {t : TA} {F : Env → Rs (List PyData)} (h : SemG c E t F (RA c)) (hl : ∀ ds, f ds ≠ .stuck → ds.length = np) : SemG c E (tCall (spF c f np) [] E t) (fCall f F) (RV c) := by
  intro G H ρ σ rep hns Q ok er
  refine h.use rep hns er fun ds ed e1 G1 H1 vs n1 r1 q1 h1 er1 => ?_
  show spF c f np (vs ++ []) H1 Q E
  rw [List.append_nil]
  exact ⟨G1, ds, n1.gh, q1, hl ds h1, h1, fun s es G' H' v n q => ok s (e1.trans es) G' H' v (n1.trans n) (RV.mono n1 q), er1⟩
end PF

namespace PF
open PySem L2

/-! ### targets -/
theorem wipe_set {σ : L2.St} {i : Nat} {o : Option V} : ∀ {vs : List Nat}, i ∈ vs → wipe (σ.set i o) vs = wipe σ vs
  | v :: vs, h => by
    show (wipe (σ.set i o) vs).set v none = (wipe σ vs).set v none
    by_cases hi : i ∈ vs
    · rw [wipe_set hi]
    · have e : v = i := by
        rcases List.mem_cons.mp h with q | q
        · exact q.symm
        · exact absurd q hi
      subst e
      have key : ∀ (us : List Nat), v ∉ us → wipe (σ.set v o) us = (wipe σ us).set v o := fun us => by
        induction us with
        | nil => intro _; rfl
        | cons u us ih =>
          intro hu
          have h1 : v ≠ u := fun z => hu (by rw [z]; exact List.mem_cons_self)
          show (wipe (σ.set v o) us).set u none = ((wipe σ us).set u none).set v o
          rw [ih fun z => hu (List.mem_cons_of_mem _ z)]
          exact List.set_comm _ _ h1
      rw [key vs hi, List.set_set]
theorem wipe_idem (σ : L2.St) (vs : List Nat) : wipe (wipe σ vs) vs = wipe σ vs := by
  have key : ∀ us : List Nat, (∀ u ∈ us, u ∈ vs) → wipe (wipe σ us) vs = wipe σ vs := fun us => by
    induction us with
    | nil => intro _; rfl
    | cons u us ih =>
      intro h
      show wipe ((wipe σ us).set u none) vs = wipe σ vs
      rw [wipe_set (h u List.mem_cons_self)]
      exact ih fun z hz => h z (List.mem_cons_of_mem _ hz)
  exact key vs fun _ h => h
/-- what a target binds -/
abbrev Tgt := PyData → Env → Option Env
def SemTG (c : Pc) (g : TG) (T : Tgt) (L : List Nat) : Prop :=
  ∀ (G H : Hp) (ρ : Env) (σ : L2.St) (v : V) (d : PyData) (ρ' : Env), Rep c G H ρ σ → Dp c.K G v d → T d ρ = some ρ' → ∀ Q : L2.St → Hp → Prop,
    (∀ σ', Rep c G H ρ' σ' → (∀ (i : Nat) s, ρ'[i]? = some s → s.own = true → ρ[i]? = some s ∧ σ'[i]? = σ[i]?) → (∀ vs, (∀ i ∈ L, i ∈ vs) → wipe σ' vs = wipe σ vs) → Q σ' H) → g v σ H Q
structure JG (ca : Nat → Addr) (X : Cx) (e : Expr) (g : TG) (T : Tgt) (L : List Nat) : Prop where
  pg : PG X e g
  sem : SemTG ⟨X.K, ca⟩ g T L
abbrev Tgts := List PyData → Env → Option Env
def SemTGs (c : Pc) (g : TGs) (T : Tgts) (L : List Nat) : Prop :=
  ∀ (G H : Hp) (ρ : Env) (σ : L2.St) (vs : List V) (ds : List PyData) (ρ' : Env), Rep c G H ρ σ → DpAll c.K G vs ds → T ds ρ = some ρ' → ∀ Q : L2.St → Hp → Prop,
    (∀ σ', Rep c G H ρ' σ' → (∀ (i : Nat) s, ρ'[i]? = some s → s.own = true → ρ[i]? = some s ∧ σ'[i]? = σ[i]?) → (∀ vs, (∀ i ∈ L, i ∈ vs) → wipe σ' vs = wipe σ vs) → Q σ' H) → g vs σ H Q
structure JGs (ca : Nat → Addr) (X : Cx) (es : List Expr) (g : TGs) (T : Tgts) (L : List Nat) : Prop where
  pgs : PGs X es g
  sem : SemTGs ⟨X.K, ca⟩ g T L
def tgN (i : Nat) : Tgt := fun d ρ => some (ρ.set i (.sh d))
def tgNil : Tgts := fun ds ρ => match ds with
  | [] => some ρ
  | _ => none
def tgCons (T : Tgt) (Ts : Tgts) : Tgts := fun ds ρ => match ds with
  | [] => none
  | d :: ds => (T d ρ).bind (Ts ds)
def tgT (n : Nat) (Ts : Tgts) : Tgt := fun d ρ => match d with
  | .tuple ds => if ds.length = n then Ts ds ρ else none
  | _ => none
def tgL (n : Nat) (Ts : Tgts) : Tgt := fun d ρ => match d with
  | .list ds => if ds.length = n then Ts ds ρ else none
  | _ => none
section
variable {ca : Nat → Addr} {X : Cx} {pos : Pos}
theorem own_set {ρ : Env} {σ : L2.St} {i : Nat} {d : PyData} {o : Option V} : ∀ (j : Nat) s, (ρ.set i (.sh d))[j]? = some s → s.own = true → ρ[j]? = some s ∧ (σ.set i o)[j]? = σ[j]? := fun j s e hs => by
  rw [List.getElem?_set] at e ⊢
  by_cases hij : i = j
  · rw [if_pos hij] at e
    split at e <;> cases e
    cases hs
  · rw [if_neg hij] at e ⊢
    exact ⟨e, rfl⟩
theorem jg_name {i : Nat} {x : Str} (hN : X.N.Nodup) (hi : X.N[i]? = some x) (hx : Loc X.env.scope x) (hf : X.fn x = true ∨ X.env.scope.names.lookup x = some .local := by first | exact .inl rfl | exact .inr rfl) : JG ca X (.Name x pos) (gName i) (tgN i) [i] :=
  ⟨pg_name hN hi hx hf, fun G H ρ σ v d ρ' rep q e Q k => by
    cases e
    exact k _ (rep.set rfl ⟨v, rfl, q⟩) own_set fun vs hv => wipe_set (hv i List.mem_cons_self)⟩
theorem jgs_nil : JGs ca X [] gNil tgNil [] :=
  ⟨pgs_nil, fun G H ρ σ vs ds ρ' rep q e Q k => by
    cases q with
    | nil =>
      cases e
      exact ⟨rfl, k σ rep (fun i s h _ => ⟨h, rfl⟩) fun _ _ => rfl⟩
    | cons _ _ => cases e⟩
theorem jgs_cons {e : Expr} {es : List Expr} {g : TG} {gs : TGs} {T : Tgt} {Ts : Tgts} {L L' : List Nat} (h : JG ca X e g T L) (h' : JGs ca X es gs Ts L')
    (hs : (assignEach (e :: es) X.env).map (·.2) = assign e X.env :: (assignEach es X.env).map (·.2) := by rfl) : JGs ca X (e :: es) (gCons g gs) (tgCons T Ts) (L ++ L') :=
  ⟨pgs_cons h.pg h'.pgs hs, fun G H ρ σ vs ds ρ' rep q e Q k => by
    cases q with
    | nil => cases e
    | @cons v vs d ds q1 q2 =>
      have e : (T d ρ).bind (Ts ds) = some ρ' := e
      cases e1 : T d ρ with
      | none => rw [e1] at e; cases e
      | some ρ1 =>
        rw [e1, Option.bind_some] at e
        refine ⟨v, vs, rfl, h.sem G H ρ σ v d ρ1 rep q1 e1 _ fun σ1 r1 o1 w1 => h'.sem G H ρ1 σ1 vs ds ρ' r1 q2 e Q fun σ2 r2 o2 w2 => k σ2 r2 (fun i s a b => ?_) fun us hu => ?_⟩
        · obtain ⟨a1, b1⟩ := o2 i s a b
          obtain ⟨a2, b2⟩ := o1 i s a1 b
          exact ⟨a2, b1.trans b2⟩
        · rw [w2 us fun i hi => hu i (List.mem_append_right _ hi), w1 us fun i hi => hu i (List.mem_append_left _ hi)]⟩
theorem jg_tup {es : List Expr} {k : Nat} {g : TGs} {n : Nat} {Ts : Tgts} {L : List Nat} (h : JGs ca X es g Ts L) (hc : X.calm = true) (hn : (assignEach es X.env).length = n := by rfl) (hst : (assignEach es X.env).findIdx? (·.1) = none := by rfl) : JG ca X (.Tuple es k pos) (gTup X.K n g) (tgT n Ts) L :=
  ⟨pg_tup hc h.pgs hn hst, fun G H ρ σ v d ρ' rep q e Q k => by
    cases d with
    | tuple ds =>
      have e : (if ds.length = n then Ts ds ρ else none) = some ρ' := e
      split at e
      · rename_i hl
        obtain ⟨a, xs, rfl, hx, ax⟩ := Dp.tuple_v q
        exact ⟨a, xs, rfl, Ex.sqt rep.gh hx, by rw [DpAll.length ax, hl], h.sem G H ρ σ xs ds ρ' rep ax e Q k⟩
      · cases e
    | none => cases e
    | bool b => cases e
    | int b => cases e
    | str b => cases e
    | list b => cases e
    | dict b => cases e⟩
theorem jg_unl {es : List Expr} {k : Nat} {g : TGs} {n : Nat} {Ts : Tgts} {L : List Nat} (h : JGs ca X es g Ts L) (hc : X.calm = true) (hn : (assignEach es X.env).length = n := by rfl) (hst : (assignEach es X.env).findIdx? (·.1) = none := by rfl) : JG ca X (.Tuple es k pos) (gUnl X.K n g) (tgL n Ts) L :=
  ⟨pg_unl hc h.pgs hn hst, fun G H ρ σ v d ρ' rep q e Q k => by
    cases d with
    | list ds =>
      have e : (if ds.length = n then Ts ds ρ else none) = some ρ' := e
      split at e
      · rename_i hl
        obtain ⟨a, xs, rfl, hx, ax⟩ := Dp.list_v q
        exact ⟨a, xs, rfl, Ex.sql rep.gh hx, by rw [DpAll.length ax, hl], h.sem G H ρ σ xs ds ρ' rep ax e Q k⟩
      · cases e
    | none => cases e
    | bool b => cases e
    | int b => cases e
    | str b => cases e
    | tuple b => cases e
    | dict b => cases e⟩
/-- target = e -/
def fAsg (T : Tgt) (F : Env → Rs PyData) : Env → Rs Out := fun ρ => F ρ >>= fun d => match T d ρ with
  | some ρ' => .ok (.nx ρ')
  | none => .stuck
theorem ent_tgt {G0 H0 G H : Hp} {ρ ρ' : Env} {σ σ' : L2.St} (en : Ent G0 H0 G H ρ σ) (o : ∀ (i : Nat) s, ρ'[i]? = some s → s.own = true → ρ[i]? = some s ∧ σ'[i]? = σ[i]?) : Ent G0 H0 G H ρ' σ' :=
  ⟨en.nx, fun i s p e hs f => by
    obtain ⟨a, b⟩ := o i s e hs
    exact en.own i s p a hs (b ▸ f)⟩
theorem jp_asg {E : XK} {tg e : Expr} {te : TE} {g : TG} {F : Env → Rs PyData} {T : Tgt} {L : List Nat} (he : JS ca X E e te F) (hg : JG ca X tg g T L) (hs : swapsWithSole [tg] e pos.line X.env = pure false := by rfl) (hw : swappedStores [tg] e X.env = pure none := by rfl) (h1 : (assignEach [tg] X.env).map (·.2) = [assign tg X.env] := by rfl) :
    JP ca X E (.Assign [tg] e pos) (tAsg te g) (fAsg T F) :=
  ⟨ps_asg he.pe hg.pg hs hw h1, fun G0 H0 G H ρ σ rep en hns D nx rt er => he.sem.use rep hns (fun x e G' H' cl dd n => er x e G' H' cl dd (en.nx.trans n)) fun d ed e1 G' H' v n r q hk _ => by
    cases ht : T d ρ with
    | none => rw [ht] at hk; exact absurd rfl hk
    | some ρ' =>
      rw [ht] at e1
      exact hg.sem G' H' ρ σ v d ρ' r q ht _ fun σ' r' o _ => nx ρ' e1 G' H' σ' r' (ent_tgt (en.go n) o)⟩
end

/-! ### what a loop walks -/
/-- while D holds of the heap the walk gives the data ds; b: D stands as long as the whole heap does, else as long as what is shown does -/
structure WalkD (c : Pc) (b : Bool) (G1 H1 : Hp) (J : It) (ds : List PyData) : Prop where
  ex : ∃ Gd : Hp → Prop, (∀ G H, Ex G1 G → Ex G H → (b = true → Ex H1 H) → Gd H) ∧ (∀ i H, i < ds.length → Gd H → J.go i H) ∧ (∀ H, Gd H → J.stop ds.length H) ∧
    ∀ i G H x H' d, ds[i]? = some d → Gd H → Ex G1 G → Ex G H → J.yld i H x H' → ∃ G', Nx G H G' H' ∧ Dp c.K G' x d
def SemI (c : Pc) (E : XK) (b : Bool) (wi : TI) (F : Env → Rs (List PyData)) : Prop :=
  ∀ (G H : Hp) (ρ : Env) (σ : L2.St), Rep c G H ρ σ → F ρ ≠ .stuck → ∀ R : It → Hp → Prop,
    (∀ ds, F ρ = .ok ds → ∀ G' H' J, Nx G H G' H' → WalkD c b G' H' J ds → R J H') → ErrP c E G H (F ρ) → wi σ H R
structure JI (ca : Nat → Addr) (X : Cx) (E : XK) (b : Bool) (tg iter : Expr) (wi : TI) (F : Env → Rs (List PyData)) : Prop where
  pi : PI X tg iter wi
  sem : SemI ⟨X.K, ca⟩ E b wi F
def itemsL : PyData → Rs (List PyData)
  | .list ds => .ok ds
  | _ => .stuck
def itemsT : PyData → Rs (List PyData)
  | .tuple ds => .ok ds
  | _ => .stuck
def rangeD (lo hi : Int) : List PyData := (List.range (hi - lo).toNat).map fun (i : Nat) => .int (lo + i)
def small62 (i : Int) : Prop := -(2 ^ 62) ≤ i ∧ i < 2 ^ 62
instance (i : Int) : Decidable (small62 i) := by unfold small62; infer_instance
def rng1 : List PyData → Rs (List PyData)
  | [.int j] => if small62 j then .ok (rangeD 0 j) else .stuck
  | _ => .stuck
def rng2 : List PyData → Rs (List PyData)
  | [.int i, .int j] => if small62 i ∧ small62 j then .ok (rangeD i j) else .stuck
  | _ => .stuck
def pairD (a b : PyData) : PyData := .tuple [a, b]
def zipL (xs ys : List PyData) : List PyData := List.zipWith pairD xs ys
/-- zip: two lists, or two tuples -/
def zipD : List PyData → Rs (List PyData)
  | [.list xs, .list ys] => .ok (zipL xs ys)
  | [.tuple xs, .tuple ys] => .ok (zipL xs ys)
  | _ => .stuck
def enumL (xs : List PyData) : List PyData := (xs.zipIdx).map fun p => pairD (.int p.2) p.1
def enumD : List PyData → Rs (List PyData)
  | [.list xs] => .ok (enumL xs)
  | _ => .stuck
def revD : PyData → Rs (List PyData)
  | .list ds => .ok ds.reverse
  | .tuple ds => .ok ds.reverse
  | _ => .stuck
def fIt {α : Type} (f : α → Rs (List PyData)) (F : Env → Rs α) : Env → Rs (List PyData) := fun ρ => F ρ >>= f
theorem walkd_same {c : Pc} {b : Bool} {G1 H1 : Hp} {J : It} {ds : List PyData} {xs : List V} (Gd : Hp → Prop) (Y : Nat → Hp → V → Hp → Prop) (hg : ∀ G H, Ex G1 G → Ex G H → (b = true → Ex H1 H) → Gd H) (a : DpAll c.K G1 xs ds)
    (w : Walk J xs.length Gd Y) (hy : ∀ i H x H', Y i H x H' → H' = H ∧ xs[i]? = some x) : WalkD c b G1 H1 J ds := by
  have hl := DpAll.length a
  refine ⟨Gd, hg, fun i H hi g => w.goes i H (by omega) g, fun H g => by rw [← hl]; exact w.stops H g, fun i G H x H' d hd g x1 x2 hyl => ?_⟩
  have hi : i < xs.length := by rw [hl]; exact (List.getElem?_eq_some_iff.mp hd).1
  obtain ⟨rfl, hx⟩ := hy i H x H' (w.yields i H x H' hi g hyl)
  obtain ⟨d', e1, q⟩ := DpAll.get a hx
  rw [hd] at e1
  cases e1
  exact ⟨G, Nx.refl x2, Dp.ex x1 q⟩
/-- a pair is laid and shown -/
theorem pair_new {c : Pc} {G H H' : Hp} {T : Addr} {x y : V} {a b : PyData} (e : Ex G H) (h : H T = none) (e' : H' = upd H T (.tup [x, y])) (da : Dp c.K G x a) (db : Dp c.K G y b) : ∃ G', Nx G H G' H' ∧ Dp c.K G' (.ref T) (pairD a b) := by
  subst e'
  have x1 : Ex G (upd G T (.tup [x, y])) := Ex.new (e.back h)
  exact ⟨upd G T (.tup [x, y]), Nx.new e h, .tup upd_same (.cons (Dp.ex x1 da) (.cons (Dp.ex x1 db) .nil))⟩
theorem zipL_get {xs ys : List PyData} {i : Nat} {d : PyData} (h : (zipL xs ys)[i]? = some d) : ∃ a b, xs[i]? = some a ∧ ys[i]? = some b ∧ d = pairD a b := by
  unfold zipL at h
  rw [List.getElem?_zipWith] at h
  cases hx : xs[i]? with
  | none => rw [hx] at h; simp at h
  | some a =>
    cases hy : ys[i]? with
    | none => rw [hx, hy] at h; simp at h
    | some b =>
      rw [hx, hy] at h
      simp at h
      exact ⟨a, b, rfl, rfl, h.symm⟩
section
variable {ca : Nat → Addr} {X : Cx} {E : XK} {tg e e2 : Expr} {te : TE} {ta : TA} {F : Env → Rs PyData} {Fs : Env → Rs (List PyData)} {p pos tpos : Pos} {elts : List Expr} {kk : Nat}
/-- over a list that is shown -/
theorem ji_list (h : JS ca X E e te F) : JI ca X E false tg e (iList X.K te) (fIt itemsL F) :=
  ⟨pi_list h.pe, fun G H ρ σ rep hns R ok er => h.sem.use rep hns er fun d ed e1 G' H' v n r q hk _ => by
    cases d with
    | list ds =>
      obtain ⟨a, xs, rfl, hx, ax⟩ := Dp.list_v q
      exact ⟨a, rfl, ⟨xs, Ex.sql n.gh hx⟩, ok ds e1 G' H' _ n (walkd_same _ _ (fun G2 H2 z1 z2 _ => Ex.sql z2 (Ex.sql z1 hx)) ax walk_list fun i H x H' y => y)⟩
    | none => exact absurd rfl hk
    | bool b => exact absurd rfl hk
    | int b => exact absurd rfl hk
    | str b => exact absurd rfl hk
    | tuple b => exact absurd rfl hk
    | dict b => exact absurd rfl hk⟩
/-- over a list that stands still -/
theorem ji_listB (h : JB ca X E e te F) : JI ca X E true tg e (iList X.K te) (fIt itemsL F) :=
  ⟨pi_list h.pe, fun G H ρ σ rep hns R ok er => h.sem.use rep hns er fun d ed e1 G' H' v n r q hk _ => by
    cases d with
    | list ds =>
      obtain ⟨a, xs, rfl, hx, ax⟩ := db_list n.gh q
      exact ⟨a, rfl, ⟨xs, hx⟩, ok ds e1 G' H' _ n (walkd_same _ _ (fun G2 H2 z1 z2 z3 => Ex.sql (z3 rfl) hx) ax walk_list fun i H x H' y => y)⟩
    | none => exact absurd rfl hk
    | bool b => exact absurd rfl hk
    | int b => exact absurd rfl hk
    | str b => exact absurd rfl hk
    | tuple b => exact absurd rfl hk
    | dict b => exact absurd rfl hk⟩
theorem ji_tup {b : Bool} (h : JS ca X E e te F) : JI ca X E b tg e (iTup X.K te) (fIt itemsT F) :=
  ⟨pi_tup h.pe, fun G H ρ σ rep hns R ok er => h.sem.use rep hns er fun d ed e1 G' H' v n r q hk _ => by
    cases d with
    | tuple ds =>
      obtain ⟨a, xs, rfl, hx, ax⟩ := Dp.tuple_v q
      exact ⟨a, rfl, ⟨xs, Ex.sqt n.gh hx⟩, ok ds e1 G' H' _ n (walkd_same _ _ (fun G2 H2 z1 z2 _ => Ex.sqt z2 (Ex.sqt z1 hx)) ax walk_tup fun i H x H' y => y)⟩
    | none => exact absurd rfl hk
    | bool b => exact absurd rfl hk
    | int b => exact absurd rfl hk
    | str b => exact absurd rfl hk
    | list b => exact absurd rfl hk
    | dict b => exact absurd rfl hk⟩
theorem walkd_range {c : Pc} {b : Bool} {G1 H1 : Hp} {lo hi : Int} : WalkD c b G1 H1 (Itr lo (hi - lo).toNat) (rangeD lo hi) := by
  have hl : (rangeD lo hi).length = (hi - lo).toNat := by unfold rangeD; rw [List.length_map, List.length_range]
  refine ⟨fun _ => True, fun _ _ _ _ _ => trivial, fun i H hi' _ => by rw [hl] at hi'; exact hi', fun H _ => by rw [hl]; exact Nat.le_refl _, fun i G H x H' d hd _ x1 x2 hyl => ?_⟩
  obtain ⟨rfl, rfl⟩ := hyl
  unfold rangeD at hd
  rw [List.getElem?_map] at hd
  have hi' : i < (hi - lo).toNat := by rw [← hl]; exact (by
    have := (List.getElem?_eq_some_iff.mp (show (rangeD lo hi)[i]? = some d by unfold rangeD; rw [List.getElem?_map]; exact hd)).1
    exact this)
  rw [List.getElem?_range hi'] at hd
  cases hd
  exact ⟨G, Nx.refl x2, .int _⟩
theorem ji_range1 {a : Expr} {b : Bool} (ha : JA ca X E [a] ta Fs) (hm : X.mg "range" = none) (hg : Gl X "range" := by rfl) (hs : starEach [a] X.env = [(false, eval a X.env)] := by rfl) : JI ca X E b tg (.Call (.Name "range" p) [a] [] pos) (iRng1 ta) (fIt rng1 Fs) :=
  ⟨pi_range1 hg hm ha.pa hs, fun G H ρ σ rep hns R ok er => ha.sem.use rep hns er fun d ed e1 G' H' v n r q hk _ => by
    have q : DpAll X.K G' v d := q
    match d, v, q with
    | [.int j], _, .cons q .nil =>
      by_cases hj : small62 j
      · have e2 : rng1 [.int j] = .ok (rangeD 0 j) := if_pos hj
        refine ⟨j, by rw [Dp.int_v q], hj.1, hj.2, ok _ (e1.trans e2) G' H' _ n ?_⟩
        have := walkd_range (c := ⟨X.K, ca⟩) (b := b) (G1 := G') (H1 := H') (lo := 0) (hi := j)
        rw [Int.sub_zero] at this
        exact this
      · exact absurd (if_neg hj) hk
    | [], _, _ => exact absurd rfl hk
    | [.none], _, _ => exact absurd rfl hk
    | [.bool _], _, _ => exact absurd rfl hk
    | [.str _], _, _ => exact absurd rfl hk
    | [.list _], _, _ => exact absurd rfl hk
    | [.tuple _], _, _ => exact absurd rfl hk
    | [.dict _], _, _ => exact absurd rfl hk
    | a1 :: a2 :: as, _, _ => exact absurd (show rng1 (a1 :: a2 :: as) = .stuck by cases a1 <;> rfl) hk⟩
theorem rng2_ok {ds rs : List PyData} (h : rng2 ds = .ok rs) : ∃ i j, ds = [.int i, .int j] ∧ small62 i ∧ small62 j ∧ rs = rangeD i j := by
  unfold rng2 at h
  split at h
  · split at h
    · rename_i h2
      cases h
      exact ⟨_, _, rfl, h2.1, h2.2, rfl⟩
    · cases h
  · cases h
theorem ji_range2 {a a2 : Expr} {b : Bool} (ha : JA ca X E [a, a2] ta Fs) (hm : X.mg "range" = none) (hg : Gl X "range" := by rfl) (hs : starEach [a, a2] X.env = [(false, eval a X.env), (false, eval a2 X.env)] := by rfl) (hs2 : starEach [a2] X.env = [(false, eval a2 X.env)] := by rfl) :
    JI ca X E b tg (.Call (.Name "range" p) [a, a2] [] pos) (iRng2 ta) (fIt rng2 Fs) :=
  ⟨pi_range2 hg hm ha.pa hs hs2, fun G H ρ σ rep hns R ok er => ha.sem.use rep hns er fun d ed e1 G' H' v n r q hk _ => by
    have q : DpAll X.K G' v d := q
    cases h2 : rng2 d with
    | stuck => exact absurd h2 hk
    | err x => unfold rng2 at h2; split at h2 <;> (try split at h2) <;> cases h2
    | ok rs =>
      obtain ⟨i, j, rfl, hi, hj, rfl⟩ := rng2_ok h2
      match v, q with
      | _, .cons q1 (.cons q2 .nil) => exact ⟨i, j, by rw [Dp.int_v q1, Dp.int_v q2], ⟨hi.1, hi.2, hj.1, hj.2⟩, ok _ (e1.trans h2) G' H' _ n walkd_range⟩⟩
theorem zipD_ok {ds rs : List PyData} (h : zipD ds = .ok rs) : ∃ xs ys, (ds = [.list xs, .list ys] ∨ ds = [.tuple xs, .tuple ys]) ∧ rs = zipL xs ys := by
  unfold zipD at h
  split at h
  · cases h; exact ⟨_, _, .inl rfl, rfl⟩
  · cases h; exact ⟨_, _, .inr rfl, rfl⟩
  · cases h
/-- over zip of two lists or of two tuples, shown -/
theorem ji_zip {b : Bool} (ha : JA ca X E [e, e2] ta Fs) (hm : X.mg "zip" = none) (hg : Gl X "zip" := by rfl) (hs : starEach [e, e2] X.env = (false, eval e X.env) :: starEach [e2] X.env := by rfl) (hpl : (backTo pos (starEach [e2] X.env)).any (·.1) = false := by rfl) :
    JI ca X E b (.Tuple elts kk tpos) (.Call (.Name "zip" p) [e, e2] [] pos) (RZ.iZipA X.K ta) (fIt zipD Fs) :=
  ⟨RZ.pi_zipA hg hm ha.pa hs hpl, fun G H ρ σ rep hns R ok er => ha.sem.use rep hns er fun d ed e1 G' H' v n r q hk _ => by
    have q : DpAll X.K G' v d := q
    cases h2 : zipD d with
    | stuck => exact absurd h2 hk
    | err x => unfold zipD at h2; split at h2 <;> cases h2
    | ok rs =>
      obtain ⟨xs, ys, hd, rfl⟩ := zipD_ok h2
      have hlen : (zipL xs ys).length = min xs.length ys.length := by unfold zipL; exact List.length_zipWith
      rcases hd with rfl | rfl
      · match v, q with
        | _, .cons q1 (.cons q2 .nil) =>
          obtain ⟨a, vs, rfl, ha1, aa⟩ := Dp.list_v q1
          obtain ⟨b2, ws, rfl, hb1, ab⟩ := Dp.list_v q2
          have la := DpAll.length aa
          have lb := DpAll.length ab
          refine ⟨a, b2, vs, ws, rfl, .inl ⟨Ex.sql n.gh ha1, Ex.sql n.gh hb1, ok _ (e1.trans h2) G' H' _ n ⟨fun H => SqL X.K H a vs ∧ SqL X.K H b2 ws, fun G2 H2 z1 z2 _ => ⟨Ex.sql z2 (Ex.sql z1 ha1), Ex.sql z2 (Ex.sql z1 hb1)⟩, ?_, ?_, ?_⟩⟩⟩
          · intro i H hi g
            exact (walk_zip (K := X.K) (a := a) (b := b2) (xs := vs) (ys := ws) rfl).goes i H (by rw [hlen] at hi; omega) g
          · intro H g
            rw [hlen, ← la, ← lb]
            exact (walk_zip (K := X.K) (a := a) (b := b2) (xs := vs) (ys := ws) rfl).stops H g
          · intro i G2 H2 x H3 d hd g z1 z2 hy
            obtain ⟨c1, c2, h1, h2, rfl⟩ := zipL_get hd
            have hi : i < min vs.length ws.length := by
              have a1 := (List.getElem?_eq_some_iff.mp h1).1
              have a2 := (List.getElem?_eq_some_iff.mp h2).1
              omega
            obtain ⟨T, x1, y1, rfl, hT, e3, e4, e5⟩ := (walk_zip (K := X.K) (a := a) (b := b2) (xs := vs) (ys := ws) rfl).yields i H2 x H3 hi g hy
            obtain ⟨d1, f1, g1⟩ := DpAll.get aa e4
            obtain ⟨d2, f2, g2⟩ := DpAll.get ab e5
            rw [h1] at f1
            rw [h2] at f2
            cases f1
            cases f2
            exact pair_new z2 hT e3 (Dp.ex z1 g1) (Dp.ex z1 g2)
      · match v, q with
        | _, .cons q1 (.cons q2 .nil) =>
          obtain ⟨a, vs, rfl, ha1, aa⟩ := Dp.tuple_v q1
          obtain ⟨b2, ws, rfl, hb1, ab⟩ := Dp.tuple_v q2
          have la := DpAll.length aa
          have lb := DpAll.length ab
          refine ⟨a, b2, vs, ws, rfl, .inr ⟨Ex.sqt n.gh ha1, Ex.sqt n.gh hb1, ok _ (e1.trans h2) G' H' _ n ⟨fun H => SqT X.K H a vs ∧ SqT X.K H b2 ws, fun G2 H2 z1 z2 _ => ⟨Ex.sqt z2 (Ex.sqt z1 ha1), Ex.sqt z2 (Ex.sqt z1 hb1)⟩, ?_, ?_, ?_⟩⟩⟩
          · intro i H hi g
            have l1 : i < vs.length := by rw [hlen] at hi; omega
            have l2 : i < ws.length := by rw [hlen] at hi; omega
            exact ⟨vs, ws, vs[i], ws[i], g.1, g.2, List.getElem?_eq_getElem l1, List.getElem?_eq_getElem l2⟩
          · intro H g
            exact ⟨vs, ws, g.1, g.2, by rw [hlen]; omega⟩
          · intro i G2 H2 x H3 d hd g z1 z2 hy
            obtain ⟨c1, c2, h1, h2, rfl⟩ := zipL_get hd
            obtain ⟨T, x1, y1, rfl, hT, e3, e4, e5⟩ := hy
            obtain ⟨d1, f1, g1⟩ := DpAll.get aa (e4 vs g.1)
            obtain ⟨d2, f2, g2⟩ := DpAll.get ab (e5 ws g.2)
            rw [h1] at f1
            rw [h2] at f2
            cases f1
            cases f2
            exact pair_new z2 hT e3 (Dp.ex z1 g1) (Dp.ex z1 g2)⟩
theorem enumD_ok {ds rs : List PyData} (h : enumD ds = .ok rs) : ∃ xs, ds = [.list xs] ∧ rs = enumL xs := by
  unfold enumD at h
  split at h
  · cases h; exact ⟨_, rfl, rfl⟩
  · cases h
theorem enumL_get {xs : List PyData} {i : Nat} {d : PyData} (h : (enumL xs)[i]? = some d) : ∃ a, xs[i]? = some a ∧ d = pairD (.int i) a := by
  unfold enumL at h
  rw [List.getElem?_map, List.getElem?_zipIdx] at h
  cases hx : xs[i]? with
  | none => rw [hx] at h; cases h
  | some a =>
    rw [hx] at h
    simp at h
    exact ⟨a, rfl, h.symm⟩
theorem ji_enum {b : Bool} (ha : JA ca X E [e] ta Fs) (hm : X.mg "enumerate" = none) (hg : Gl X "enumerate" := by rfl) (hs : starEach [e] X.env = [(false, eval e X.env)] := by rfl) :
    JI ca X E b (.Tuple elts kk tpos) (.Call (.Name "enumerate" p) [e] [] pos) (iEnum X.K ta) (fIt enumD Fs) :=
  ⟨pi_enum hg hm ha.pa hs, fun G H ρ σ rep hns R ok er => ha.sem.use rep hns er fun d ed e1 G' H' v n r q hk _ => by
    have q : DpAll X.K G' v d := q
    cases h2 : enumD d with
    | stuck => exact absurd h2 hk
    | err x => unfold enumD at h2; split at h2 <;> cases h2
    | ok rs =>
      obtain ⟨xs, rfl, rfl⟩ := enumD_ok h2
      have hlen : (enumL xs).length = xs.length := by unfold enumL; rw [List.length_map, List.length_zipIdx]
      match v, q with
      | _, .cons q1 .nil =>
        obtain ⟨a, vs, rfl, ha1, aa⟩ := Dp.list_v q1
        have la := DpAll.length aa
        refine ⟨a, vs, rfl, Ex.sql n.gh ha1, ok _ (e1.trans h2) G' H' _ n ⟨fun H => SqL X.K H a vs, fun G2 H2 z1 z2 _ => Ex.sql z2 (Ex.sql z1 ha1), ?_, ?_, ?_⟩⟩
        · intro i H hi g
          exact walk_enum.goes i H (by rw [hlen] at hi; omega) g
        · intro H g
          rw [hlen, ← la]
          exact walk_enum.stops H g
        · intro i G2 H2 x H3 d hd g z1 z2 hy
          obtain ⟨c1, h1, rfl⟩ := enumL_get hd
          have hi : i < vs.length := by rw [la]; exact (List.getElem?_eq_some_iff.mp h1).1
          obtain ⟨T, x1, y1, rfl, hT, e3, e4, e5⟩ := walk_enum.yields i H2 x H3 hi g hy
          obtain ⟨d1, f1, g1⟩ := DpAll.get aa e5
          rw [h1] at f1
          cases f1
          cases e4
          exact pair_new z2 hT e3 (.int _) (Dp.ex z1 g1)⟩
theorem ji_rev {b : Bool} (h : JS ca X E e te F) (hm : X.mg "reversed" = none) (hg : Gl X "reversed" := by rfl) (hs : starEach [e] X.env = (false, eval e X.env) :: starEach [] X.env := by rfl) : JI ca X E b tg (.Call (.Name "reversed" p) [e] [] pos) (RT.iRevA X.K te) (fIt revD F) :=
  ⟨RT.pi_revA hg hm h.pe hs, fun G H ρ σ rep hns R ok er => h.sem.use rep hns er fun d ed e1 G' H' v n r q hk _ => by
    have rev : ∀ {ds : List PyData} {vs : List V} {i : Nat} {x : V} {d : PyData}, DpAll X.K G' vs ds → vs[vs.length - 1 - i]? = some x → ds.reverse[i]? = some d → Dp X.K G' x d := fun {ds vs i x d} a hx hd => by
      have hl := DpAll.length a
      have hi : i < ds.length := by have := (List.getElem?_eq_some_iff.mp hd).1; rwa [List.length_reverse] at this
      rw [List.getElem?_reverse hi, ← hl] at hd
      obtain ⟨d', e1, q⟩ := DpAll.get a hx
      rw [hd] at e1
      cases e1
      exact q
    cases d with
    | list ds =>
      obtain ⟨a, xs, rfl, hx, ax⟩ := Dp.list_v q
      have la := DpAll.length ax
      refine ⟨a, xs, rfl, .inl ⟨Ex.sql n.gh hx, ok _ e1 G' H' _ n ⟨fun H => SqL X.K H a xs, fun G2 H2 z1 z2 _ => Ex.sql z2 (Ex.sql z1 hx), ?_, ?_, ?_⟩⟩⟩
      · intro i H hi g
        exact walk_rev.goes i H (by rw [List.length_reverse] at hi; omega) g
      · intro H g
        rw [List.length_reverse, ← la]
        exact walk_rev.stops H g
      · intro i G2 H2 x H3 d hd g z1 z2 hy
        have hi : i < xs.length := by rw [la]; have := (List.getElem?_eq_some_iff.mp hd).1; rwa [List.length_reverse] at this
        obtain ⟨rfl, e3⟩ := walk_rev.yields i H2 x H3 hi g hy
        exact ⟨G2, Nx.refl z2, Dp.ex z1 (rev ax e3 hd)⟩
    | tuple ds =>
      obtain ⟨a, xs, rfl, hx, ax⟩ := Dp.tuple_v q
      have la := DpAll.length ax
      refine ⟨a, xs, rfl, .inr ⟨Ex.sqt n.gh hx, ok _ e1 G' H' _ n ⟨fun H => SqT X.K H a xs, fun G2 H2 z1 z2 _ => Ex.sqt z2 (Ex.sqt z1 hx), ?_, ?_, ?_⟩⟩⟩
      · intro i H hi g
        have hi : i < xs.length := by rw [List.length_reverse] at hi; omega
        exact ⟨hi, xs, xs[xs.length - 1 - i], g, List.getElem?_eq_getElem (by omega)⟩
      · intro H g
        show xs.length ≤ ds.reverse.length
        rw [List.length_reverse, la]
        exact Nat.le_refl _
      · intro i G2 H2 x H3 d hd g z1 z2 hy
        obtain ⟨rfl, e3⟩ := hy
        exact ⟨G2, Nx.refl z2, Dp.ex z1 (rev ax (e3 xs g) hd)⟩
    | none => exact absurd rfl hk
    | bool b => exact absurd rfl hk
    | int b => exact absurd rfl hk
    | str b => exact absurd rfl hk
    | dict b => exact absurd rfl hk⟩
end
/-! ### for -/
/-- H0 with all that is shown now -/
def ovl (H0 G : Hp) : Hp := fun a => match G a with
  | some o => some o
  | none => H0 a
theorem ovl_some {H0 G : Hp} {a : Addr} {o : HO} (h : G a = some o) : ovl H0 G a = some o := by unfold ovl; rw [h]
theorem ovl_none {H0 G : Hp} {a : Addr} (h : G a = none) : ovl H0 G a = H0 a := by unfold ovl; rw [h]
theorem ovl_ex {G0 H0 G H : Hp} (n : Nx G0 H0 G H) : Ex H0 (ovl H0 G) := fun a o h => by
  cases hg : G a with
  | none => rw [ovl_none hg]; exact h
  | some u =>
    rw [ovl_some hg]
    have h1 := n.gh a u hg
    rw [n.h a o h] at h1
    exact h1.symm
theorem nx_up {G0 H0 G H G2 H2 : Hp} (n : Nx G0 H0 G H) (n2 : Nx G0 H0 G2 H2) (x : Ex G G2) : Nx G (ovl H0 G) G2 H2 := by
  refine ⟨x, fun a o h => ?_, n2.gh, fun a h g => ?_⟩
  · cases hg : G a with
    | none => rw [ovl_none hg] at h; exact n2.h a o h
    | some u => rw [ovl_some hg] at h; cases h; exact n2.gh a _ (x a _ hg)
  · rw [ovl_none g] at h
    exact n2.fr a h (n.g.back g)
theorem nx_down {G0 H0 G H G3 H3 : Hp} (n : Nx G0 H0 G H) (m : Nx G (ovl H0 G) G3 H3) : Nx G0 H0 G3 H3 := by
  refine ⟨n.g.trans m.g, (ovl_ex n).trans m.h, m.gh, fun a h g => ?_⟩
  rcases n.fr a h g with q | ⟨xs, q⟩
  · exact m.fr a (by rw [ovl_none q]; exact h) q
  · exact .inr ⟨xs, m.g a _ q⟩
theorem ent_up {G0 H0 G H G2 H2 : Hp} {ρ : Env} {σ : L2.St} (c : Pc) (n : Nx G0 H0 G H) (x : Ex G G2) (r : Rep c G2 H2 ρ σ) (e : Ent G0 H0 G2 H2 ρ σ) : Ent G (ovl H0 G) G2 H2 ρ σ :=
  ⟨nx_up n e.nx x, fun i s p h1 h2 h3 => by
    have g : G2 p = none := by
      obtain ⟨o, e1, q⟩ := r.sl i s h1
      rw [h3] at e1
      cases e1
      cases s with
      | ol ds => obtain ⟨b, xs, z, g, _⟩ := q; cases z; exact g
      | od ds => obtain ⟨b, xs, z, g, _⟩ := q; cases z; exact g
      | no => cases h2
      | sh d => cases h2
      | exn x => cases h2
      | hal _ _ => cases h2
    rw [ovl_none (x.back g)]
    exact e.own i s p h1 h2 h3⟩
theorem ent_down {G0 H0 G H G3 H3 : Hp} {ρ : Env} {σ : L2.St} (n : Nx G0 H0 G H) (e : Ent G (ovl H0 G) G3 H3 ρ σ) : Ent G0 H0 G3 H3 ρ σ :=
  ⟨nx_down n e.nx, fun i s p h1 h2 h3 => (ovl_ex n).back (e.own i s p h1 h2 h3)⟩
theorem rv_down {c : Pc} {G0 H0 G H G3 H3 : Hp} {v : V} {s : Sl} (n : Nx G0 H0 G H) (h : RV c G (ovl H0 G) G3 H3 v s) : RV c G0 H0 G3 H3 v s := by
  cases s with
  | no => exact h
  | sh d => exact h
  | ol ds => obtain ⟨p, xs, e, h1, q⟩ := h; exact ⟨p, xs, e, (ovl_ex n).back h1, q⟩
  | od ds => obtain ⟨p, xs, e, h1, q⟩ := h; exact ⟨p, xs, e, (ovl_ex n).back h1, q⟩
  | exn x => exact h
  | hal _ _ => exact h
def forF (T : Tgt) (B : Env → Rs Out) : List PyData → Env → Rs Out
  | [], ρ => .ok (.nx ρ)
  | d :: ds, ρ => match T d ρ with
    | some ρ' => after (B ρ') (forF T B ds)
    | none => .stuck
def fFor (F : Env → Rs (List PyData)) (T : Tgt) (B : Env → Rs Out) : Env → Rs Out := fun ρ => F ρ >>= fun ds => forF T B ds ρ
section
variable {ca : Nat → Addr} {X : Cx} {E : XK} {pos : Pos}
theorem jp_for {tg iter : Expr} {body : List Stmt} {wi : TI} {g : TG} {tb : TS} {F : Env → Rs (List PyData)} {T : Tgt} {L : List Nat} {B : Env → Rs Out} (hi : JI ca X E false tg iter wi F) (hg : JG ca X tg g T L) (hb : JPs ca X E body tb B)
    (hp : PassesOwn (model X.prog X.w) X.A X.env X.xe) (hc : X.calm = true) (hs : ∀ x, foldedSetIterable iter X.env x = pure x := by intro _; rfl) : JP ca X E (.For tg iter body [] pos) (tFor wi g tb) (fFor F T B) := by
  refine ⟨ps_for hp hc hi.pi hg.pg hb.ps hs, fun G0 H0 G H ρ σ rep en hns D nx rt er => ?_⟩
  refine hi.sem G H ρ σ rep (fun z => hns (by unfold fFor; rw [z]; rfl)) _ (fun ds ed G' H' J n wd => ?_) fun x e G' H' cl dd n => er x (by unfold fFor; rw [e]; rfl) G' H' cl dd (en.nx.trans n)
  have e0 : fFor F T B ρ = forF T B ds ρ := by unfold fFor; rw [ed]; rfl
  have n0 : Nx G0 H0 G' H' := en.nx.trans n
  obtain ⟨Gd, hgd, goes, stops, ylds⟩ := wd.ex
  refine ⟨fun i m σ1 H1 => m = ds.length - i ∧ i ≤ ds.length ∧ ∃ G1 ρ1, Rep ⟨X.K, ca⟩ G1 H1 ρ1 σ1 ∧ Ent G' (ovl H0 G') G1 H1 ρ1 σ1 ∧ forF T B (ds.drop i) ρ1 = fFor F T B ρ,
    ⟨ds.length, rfl, Nat.zero_le _, G', ρ, rep.nx n, ent_up ⟨X.K, ca⟩ n0 (Ex.refl _) (rep.nx n) (en.go n), e0.symm⟩, fun i m σ1 H1 h => ?_⟩
  obtain ⟨rfl, hil, G1, ρ1, rep1, en1, hf⟩ := h
  have gd := hgd G1 H1 en1.nx.g rep1.gh (fun z => nomatch z)
  by_cases hlt : i < ds.length
  · refine .inr ⟨goes i H1 hlt gd, ?_⟩
    have hd : ds[i]? = some ds[i] := List.getElem?_eq_getElem hlt
    rw [List.drop_eq_getElem_cons hlt] at hf
    unfold forF at hf
    cases ht : T ds[i] ρ1 with
    | none => rw [ht] at hf; exact absurd hf.symm hns
    | some ρ2 =>
      rw [ht] at hf
      have hf : after (B ρ2) (forF T B (ds.drop (i + 1))) = fFor F T B ρ := hf
      refine ⟨fun σ2 H2 => ∃ G2 ρ3, Rep ⟨X.K, ca⟩ G2 H2 ρ3 σ2 ∧ Ent G' (ovl H0 G') G2 H2 ρ3 σ2 ∧ forF T B (ds.drop (i + 1)) ρ3 = fFor F T B ρ, fun σ2 H2 ⟨G2, ρ3, a1, a2, a4⟩ => ⟨ds.length - (i + 1), by omega, rfl, hlt, G2, ρ3, a1, a2, a4⟩, fun x H2 hy => ?_⟩
      obtain ⟨G2, n2, q2⟩ := ylds i G1 H1 x H2 _ hd gd en1.nx.g rep1.gh hy
      have r2 := rep1.nx n2
      refine hg.sem G2 H2 ρ1 σ1 x _ ρ2 r2 q2 ht _ fun σ2 r3 o _ => ?_
      have en2 : Ent G' (ovl H0 G') G2 H2 ρ2 σ2 := ent_tgt (en1.go n2) o
      exact hb.sem.use (k := forF T B (ds.drop (i + 1))) r3 en2 (by rw [hf]; exact hns) (fun ρ' e3 e4 G3 H3 σ3 r4 en3 => ⟨G3, ρ', r4, en3, e4.symm.trans hf⟩) (fun s e3 G3 H3 v n3 q3 => rt s (hf.symm.trans e3) G3 H3 v (nx_down n0 n3) (rv_down n0 q3))
        fun x e G3 H3 cl dd n3 => er x (hf.symm.trans e) G3 H3 cl dd (nx_down n0 n3)
  · have hi2 : i = ds.length := by omega
    subst hi2
    rw [List.drop_length] at hf
    exact .inl ⟨stops H1 gd, nx ρ1 hf.symm G1 H1 σ1 rep1 (ent_down n0 en1)⟩
end
/-! ### comprehensions -/
def wipeE (ρ : Env) : List Nat → Env
  | [] => ρ
  | v :: vs => (wipeE ρ vs).set v .no
theorem wipe_rep {c : Pc} {G H : Hp} {ρ : Env} {σ : L2.St} (r : Rep c G H ρ σ) : ∀ vs : List Nat, Rep c G H (wipeE ρ vs) (wipe σ vs)
  | [] => r
  | v :: vs => (wipe_rep r vs).set rfl trivial
/-- the items kept -/
def lcF (T : Tgt) (C : Env → Rs Bool) (F : Env → Rs PyData) (ρ0 : Env) : List PyData → List PyData → Rs (List PyData)
  | [], acc => .ok acc
  | d :: ds, acc => match T d ρ0 with
    | some ρ => C ρ >>= fun b => if b = true then F ρ >>= fun y => (if acc.length < lim then lcF T C F ρ0 ds (acc ++ [y]) else .stuck) else lcF T C F ρ0 ds acc
    | none => .stuck
def fLc (S : Env → Rs (List PyData)) (T : Tgt) (C : Env → Rs Bool) (F : Env → Rs PyData) (vs : List Nat) : Env → Rs Sl := fun ρ => S ρ >>= fun ds => lcF T C F (wipeE ρ vs) ds [] >>= fun r => .ok (.ol r)
def fYes : Env → Rs Bool := fun _ => .ok true
/-- the tests of a clause -/
structure JC (ca : Nat → Addr) (X : Cx) (E : XK) (ifs : List Expr) (t : TT) (F : Env → Rs Bool) : Prop where
  pts : PTs X ifs t
  sem : SemG ⟨X.K, ca⟩ E t F RT
theorem jc_nil {ca : Nat → Addr} {X : Cx} {E : XK} : JC ca X E [] tYes fYes := ⟨pts_nil, fun G H ρ σ rep hns Q ok er => ok true rfl G H true (Nx.refl rep.gh) rfl⟩
theorem jc_one {ca : Nat → Addr} {X : Cx} {E : XK} {c : Expr} {t : TT} {F : Env → Rs Bool} (h : JT ca X E c t F) : JC ca X E [c] t F := ⟨pts_one h.pt, h.sem⟩
theorem lc_semAt {c : Pc} {E : XK} {wi : TI} {g : TG} {tt : TT} {te : TE} {S : Env → Rs (List PyData)} {T : Tgt} {L vs : List Nat} {C : Env → Rs Bool} {F : Env → Rs PyData} (hg : SemTG c g T L) (ht : SemG c E0 tt C RT) (he : SemG c E0 te F (RS c))
    (hL : ∀ i ∈ L, i ∈ vs) : ∀ (G H : Hp) (ρ : Env) (σ : L2.St), (∀ R : It → Hp → Prop, (∀ ds, S ρ = .ok ds → ∀ G' H' J, Nx G H G' H' → WalkD c true G' H' J ds → R J H') → ErrP c E G H (S ρ) → wi σ H R) → Rep c G H ρ σ → (∃ r, fLc S T C F vs ρ = .ok r) → ∀ Q : VK, (∀ a, fLc S T C F vs ρ = .ok a → ∀ G' H' v, Nx G H G' H' → RV c G H G' H' v a → Q v H') → tLc wi g tt te vs σ H Q := by
  intro G H ρ σ hi rep hr Q ok
  obtain ⟨r, hr⟩ := hr
  cases hS : S ρ with
  | stuck => unfold fLc at hr; rw [hS] at hr; cases hr
  | err x => unfold fLc at hr; rw [hS] at hr; cases hr
  | ok ds0 =>
  refine hi _ (fun ds ed G' H' J n wd => ?_) fun x e => by rw [hS] at e; cases e
  rw [hS] at ed
  cases ed
  cases hl : lcF T C F (wipeE ρ vs) ds0 [] with
  | stuck => unfold fLc at hr; rw [hS, ok_bind, hl] at hr; cases hr
  | err x => unfold fLc at hr; rw [hS, ok_bind, hl] at hr; cases hr
  | ok res =>
  have e0 : fLc S T C F vs ρ = .ok (.ol res) := by unfold fLc; rw [hS, ok_bind, hl]; rfl
  obtain ⟨Gd, hgd, goes, stops, ylds⟩ := wd.ex
  intro Dl hD
  have gD : G' Dl = none := n.gh.back hD
  refine ⟨fun i m H1 => m = ds0.length - i ∧ i ≤ ds0.length ∧ ∃ G1 acc xs, Nx G' (upd H' Dl (.lst [])) G1 (upd H1 Dl (.lst [])) ∧ Ex G1 H1 ∧ H1 Dl = some (.lst xs) ∧ DpAll c.K G1 xs acc ∧ lcF T C F (wipeE ρ vs) (ds0.drop i) acc = .ok res,
    ⟨ds0.length, rfl, Nat.zero_le _, G', [], [], ?_, ?_, upd_same, .nil, hl⟩, fun i m H1 h => ?_⟩
  · rw [upd_upd]
    exact Nx.refl (n.gh.trans (Ex.new hD))
  · exact n.gh.trans (Ex.new hD)
  obtain ⟨rfl, hil, G1, acc, xs, n1, x1, hx, ax, hf⟩ := h
  have g1D : G1 Dl = none := by
    rcases n1.fr Dl (by rw [upd_same]; exact fun z => nomatch z) gD with q | ⟨ys, q⟩
    · exact q
    · have := n1.gh Dl _ q
      rw [upd_same] at this
      cases this
  have old : ∀ a o, H' a = some o → H1 a = some o := fun a o h => by
    have hne : a ≠ Dl := ne_of_none h hD
    have := n1.h a o (by rw [upd_ne hne]; exact h)
    rwa [upd_ne hne] at this
  have nx1 : Nx G H G1 H1 := by
    refine ⟨n.g.trans n1.g, n.h.trans old, x1, fun a h g => ?_⟩
    rcases n.fr a h g with q | ⟨ys, q⟩
    · refine n1.fr a ?_ q
      have hne : a ≠ Dl := fun z => by
        subst z
        exact h (n.h.back hD)
      rw [upd_ne hne]
      cases hh : H a with
      | none => exact absurd hh h
      | some o => rw [n.h a o hh]; exact fun z => nomatch z
    · exact .inr ⟨ys, n1.g a _ q⟩
  have gd := hgd G1 H1 n1.g x1 fun _ => old
  by_cases hlt : i < ds0.length
  · refine .inr ⟨goes i H1 hlt gd, ?_⟩
    have hd : ds0[i]? = some ds0[i] := List.getElem?_eq_getElem hlt
    rw [List.drop_eq_getElem_cons hlt] at hf
    unfold lcF at hf
    cases htg : T ds0[i] (wipeE ρ vs) with
    | none => rw [htg] at hf; cases hf
    | some ρ2 =>
      rw [htg] at hf
      have hf : (C ρ2 >>= fun b => if b = true then F ρ2 >>= fun y => (if acc.length < lim then lcF T C F (wipeE ρ vs) (ds0.drop (i + 1)) (acc ++ [y]) else .stuck) else lcF T C F (wipeE ρ vs) (ds0.drop (i + 1)) acc) = .ok res := hf
      refine ⟨fun H2 => ∃ G1 acc xs, Nx G' (upd H' Dl (.lst [])) G1 (upd H2 Dl (.lst [])) ∧ Ex G1 H2 ∧ H2 Dl = some (.lst xs) ∧ DpAll c.K G1 xs acc ∧ lcF T C F (wipeE ρ vs) (ds0.drop (i + 1)) acc = .ok res,
        fun H2 ⟨G2, acc2, xs2, a1, a2, a3, a4, a5⟩ => ⟨ds0.length - (i + 1), by omega, rfl, hlt, G2, acc2, xs2, a1, a2, a3, a4, a5⟩, fun x H2 hy => ?_⟩
      obtain ⟨G2, n2, q2⟩ := ylds i G1 H1 x H2 _ hd gd n1.g x1 hy
      have r2 : Rep c G2 H2 (wipeE ρ vs) (wipe σ vs) := wipe_rep (rep.nx (nx1.trans n2)) vs
      refine hg G2 H2 _ _ x _ ρ2 r2 q2 htg _ fun σ2 r3 o w3 => ⟨?_, ?_⟩
      · rw [w3 vs hL, wipe_idem]
      -- behind a step that leaves what stands
      have step : ∀ G3 H3, Nx G1 H1 G3 H3 → ∀ H4, (∀ a, a ≠ Dl → H4 a = H3 a) → H4 Dl = H4 Dl → Ex G3 H4 → Nx G' (upd H' Dl (.lst [])) G3 (upd H4 Dl (.lst [])) := fun G3 H3 m H4 e4 _ x4 => by
        have g3D : G3 Dl = none := by
          rcases m.fr Dl (by rw [hx]; exact fun z => nomatch z) g1D with q | ⟨ys, q⟩
          · exact q
          · have h1 := m.gh Dl _ q
            rw [m.h Dl _ hx] at h1
            cases h1
        refine ⟨n1.g.trans m.g, fun a u h => ?_, fun a u h => ?_, fun a h g => ?_⟩
        · by_cases ha : a = Dl
          · subst ha
            rw [upd_same] at h ⊢
            exact h
          · rw [upd_ne ha] at h ⊢
            rw [e4 a ha]
            exact m.h a u (old a u h)
        · have ha : a ≠ Dl := ne_of_none h g3D
          rw [upd_ne ha]
          exact x4 a u h
        · rcases n1.fr a h g with q | ⟨ys, q⟩
          · by_cases ha : a = Dl
            · rw [ha]; exact .inl g3D
            · refine m.fr a ?_ q
              rw [upd_ne ha] at h
              cases hh : H' a with
              | none => exact absurd hh h
              | some o => rw [old a o hh]; exact fun z => nomatch z
          · exact .inr ⟨ys, m.g a _ q⟩
      have c0 : C ρ2 ≠ .stuck := fun z => by rw [z] at hf; cases hf
      refine ht G2 H2 ρ2 σ2 r3 c0 _ (fun b hb G3 H3 b' n3 eb => ?_) fun y e => by rw [e] at hf; cases hf
      cases eb
      rw [hb, ok_bind] at hf
      have m3 := n2.trans n3
      cases b with
      | false =>
        show ∃ G1 acc xs, _
        exact ⟨G3, acc, xs, step G3 H3 m3 H3 (fun _ _ => rfl) rfl n3.gh, n3.gh, m3.h Dl _ hx, DpAll.ex m3.g ax, hf⟩
      | true =>
        rw [if_pos rfl] at hf
        have f0 : F ρ2 ≠ .stuck := fun z => by rw [z] at hf; cases hf
        refine he G3 H3 ρ2 σ2 (r3.nx n3) f0 _ (fun y hy2 G4 H4 v n4 q4 => ?_) fun y e => by rw [e] at hf; cases hf
        rw [hy2, ok_bind] at hf
        have m4 := m3.trans n4
        have hx4 := m4.h Dl _ hx
        by_cases hlen : acc.length < lim
        · rw [if_pos hlen] at hf
          have g4D : G4 Dl = none := by
            rcases m4.fr Dl (by rw [hx]; exact fun z => nomatch z) g1D with q | ⟨ys, q⟩
            · exact q
            · have h1 := m4.gh Dl _ q
              rw [hx4] at h1
              cases h1
          have x4 : Ex G4 (upd H4 Dl (.lst (xs ++ [v]))) := fun a u h => by
            rw [upd_ne (ne_of_none h g4D)]
            exact n4.gh a u h
          refine ⟨xs, hx4, lim_lt (by rw [DpAll.length ax]; exact hlen), G4, acc ++ [y], xs ++ [v], ?_, x4, upd_same, DpAll.append (DpAll.ex m4.g ax) (.cons q4 .nil), hf⟩
          exact step G4 H4 m4 _ (fun a ha => upd_ne ha) rfl x4
        · rw [if_neg hlen] at hf
          cases hf
  · have hi2 : i = ds0.length := by omega
    subst hi2
    rw [List.drop_length] at hf
    cases hf
    refine .inl ⟨stops H1 gd, ok _ e0 G1 H1 _ nx1 ⟨Dl, xs, rfl, n.h.back hD, g1D, hx, ax⟩⟩
theorem lc_sem {c : Pc} {E : XK} {wi : TI} {g : TG} {tt : TT} {te : TE} {S : Env → Rs (List PyData)} {T : Tgt} {L vs : List Nat} {C : Env → Rs Bool} {F : Env → Rs PyData} (hi : SemI c E true wi S) (hg : SemTG c g T L) (ht : SemG c E0 tt C RT) (he : SemG c E0 te F (RS c))
    (hL : ∀ i ∈ L, i ∈ vs) : ∀ (G H : Hp) (ρ : Env) (σ : L2.St), Rep c G H ρ σ → (∃ r, fLc S T C F vs ρ = .ok r) → ∀ Q : VK, (∀ a, fLc S T C F vs ρ = .ok a → ∀ G' H' v, Nx G H G' H' → RV c G H G' H' v a → Q v H') → tLc wi g tt te vs σ H Q := fun G H ρ σ rep hr Q ok =>
  lc_semAt hg ht he hL G H ρ σ (fun R h1 h2 => hi G H ρ σ rep (fun z => by
    obtain ⟨r, hr⟩ := hr
    unfold fLc at hr
    rw [z] at hr
    cases hr) R h1 h2) rep hr Q ok
/-- errors don't leave a comprehension here -/
def fLcS (S : Env → Rs (List PyData)) (T : Tgt) (C : Env → Rs Bool) (F : Env → Rs PyData) (vs : List Nat) : Env → Rs Sl := fun ρ => match fLc S T C F vs ρ with
  | .ok r => .ok r
  | _ => .stuck
section
variable {ca : Nat → Addr} {X : Cx} {E : XK}
theorem sem_lc {c : Pc} {wi : TI} {g : TG} {tt : TT} {te : TE} {S : Env → Rs (List PyData)} {T : Tgt} {L vs : List Nat} {C : Env → Rs Bool} {F : Env → Rs PyData} (hi : SemI c E true wi S) (hg : SemTG c g T L) (ht : SemG c E0 tt C RT) (he : SemG c E0 te F (RS c))
    (hL : ∀ i ∈ L, i ∈ vs) : SemG c E (tLc wi g tt te vs) (fLcS S T C F vs) (RV c) := by
  intro G H ρ σ rep hns Q ok er
  unfold fLcS at hns ok
  cases hr : fLc S T C F vs ρ with
  | stuck => rw [hr] at hns; exact absurd rfl hns
  | err x => rw [hr] at hns; exact absurd rfl hns
  | ok r =>
    refine lc_sem hi hg ht he hL G H ρ σ rep ⟨r, hr⟩ Q fun a e => ok a (by rw [hr] at e ⊢; exact e)
theorem jv_lc {elt tg iter : Expr} {ifs : List Expr} {scope : Scope} {own : List (Str × Nat)} {pos : Pos} {wi : TI} {g : Shared → Hp → Addr → List (Str × Addr) → List Addr → TG} {tt : Shared → Hp → Addr → List (Str × Addr) → List Addr → TT} {te : Shared → Hp → Addr → List (Str × Addr) → List Addr → TE} {S : Env → Rs (List PyData)} {T : Tgt} {L : List Nat} {C : Env → Rs Bool} {F : Env → Rs PyData} (hc : X.calm = true) (hN : X.N.Nodup) (hi : JI ca X E true tg iter wi S) (ok : BlkOk X.N X.env.scope scope own)
    (hg : ∀ (s : Shared) (H : Hp) (D : Addr) (cl : List (Str × Addr)) (fp : List Addr), JG ca (X.blk s H scope (compEnvC scope cl D X.env) fp) tg (g s H D cl fp) T L) (ht : ∀ (s : Shared) (H : Hp) (D : Addr) (cl : List (Str × Addr)) (fp : List Addr), JC ca (X.blk s H scope (compEnvC scope cl D X.env) fp) E0 ifs (tt s H D cl fp) C)
    (he : ∀ (s : Shared) (H : Hp) (D : Addr) (cl : List (Str × Addr)) (fp : List Addr), JS ca (X.blk s H scope (compEnvC scope cl D X.env) fp) E0 elt (te s H D cl fp) F) (hL : ∀ i ∈ L, i ∈ own.map (·.2)) (s0 : Shared) (H0 : Hp) (hs : ∀ x, foldedSetIterable iter X.env x = pure x := by intro _; rfl)
    (qg : ∀ s H D cl fp, g s H D cl fp = g s0 H0 0 [] [] := by intro _ _ _ _ _; rfl) (qt : ∀ s H D cl fp, tt s H D cl fp = tt s0 H0 0 [] [] := by intro _ _ _ _ _; rfl) (qe : ∀ s H D cl fp, te s H D cl fp = te s0 H0 0 [] [] := by intro _ _ _ _ _; rfl) :
    JV ca X E (.ListComp elt [⟨tg, iter, ifs, 0⟩] scope pos) (tLc wi (g s0 H0 0 [] []) (tt s0 H0 0 [] []) (te s0 H0 0 [] []) (own.map (·.2))) (fLcS S T C F (own.map (·.2))) :=
  ⟨pe_lc hc hN hi.pi ok (fun s H C cl fp => by rw [← qg s H C cl fp]; exact (hg s H C cl fp).pg) (fun s H C cl fp => by rw [← qt s H C cl fp]; exact (ht s H C cl fp).pts) (fun s H C cl fp => by rw [← qe s H C cl fp]; exact (he s H C cl fp).pe) hs,
    sem_lc hi.sem (hg s0 H0 0 [] []).sem (ht s0 H0 0 [] []).sem (he s0 H0 0 [] []).sem hL⟩
theorem jp_setLc {i : Nat} {y : Str} {py : Pos} {elt tg iter : Expr} {ifs : List Expr} {scope : Scope} {own : List (Str × Nat)} {pos spos : Pos} {wi : TI} {g : Shared → Hp → Addr → List (Str × Addr) → List Addr → TG} {tt : Shared → Hp → Addr → List (Str × Addr) → List Addr → TT} {te : Shared → Hp → Addr → List (Str × Addr) → List Addr → TE} {S : Env → Rs (List PyData)} {T : Tgt} {L : List Nat} {C : Env → Rs Bool} {F : Env → Rs PyData} (hc : X.calm = true) (hN : X.N.Nodup) (hy : X.N[i]? = some y) (hyl : X.env.scope.names.lookup y = some .local)
    (hsw : swapsWith (.ListComp elt [⟨tg, iter, ifs, 0⟩] scope pos) (some (.Name y py)) spos.line X.env = pure true) (hi : JI ca X E true tg iter wi S) (ok : BlkOk X.N X.env.scope scope own)
    (hg : ∀ (s : Shared) (H : Hp) (D : Addr) (cl : List (Str × Addr)) (fp : List Addr), JG ca (X.blk s H scope (compEnvC scope cl D X.env) fp) tg (g s H D cl fp) T L) (ht : ∀ (s : Shared) (H : Hp) (D : Addr) (cl : List (Str × Addr)) (fp : List Addr), JC ca (X.blk s H scope (compEnvC scope cl D X.env) fp) E0 ifs (tt s H D cl fp) C)
    (he : ∀ (s : Shared) (H : Hp) (D : Addr) (cl : List (Str × Addr)) (fp : List Addr), JS ca (X.blk s H scope (compEnvC scope cl D X.env) fp) E0 elt (te s H D cl fp) F) (hL : ∀ i ∈ L, i ∈ own.map (·.2)) (s0 : Shared) (H0 : Hp) (hs : ∀ x, foldedSetIterable iter X.env x = pure x := by intro _; rfl)
    (qg : ∀ s H D cl fp, g s H D cl fp = g s0 H0 0 [] [] := by intro _ _ _ _ _; rfl) (qt : ∀ s H D cl fp, tt s H D cl fp = tt s0 H0 0 [] [] := by intro _ _ _ _ _; rfl) (qe : ∀ s H D cl fp, te s H D cl fp = te s0 H0 0 [] [] := by intro _ _ _ _ _; rfl) :
    JP ca X E (.Assign [.Name y py] (.ListComp elt [⟨tg, iter, ifs, 0⟩] scope pos) spos) (tAsg (tLc wi (g s0 H0 0 [] []) (tt s0 H0 0 [] []) (te s0 H0 0 [] []) (own.map (·.2))) (gName i)) (fSet i (fLcS S T C F (own.map (·.2)))) :=
  ⟨ps_setLc hc hN hy hyl hsw hi.pi ok (fun s H C cl fp => by rw [← qg s H C cl fp]; exact (hg s H C cl fp).pg) (fun s H C cl fp => by rw [← qt s H C cl fp]; exact (ht s H C cl fp).pts) (fun s H C cl fp => by rw [← qe s H C cl fp]; exact (he s H C cl fp).pe) hs,
    sem_set i (sem_lc hi.sem (hg s0 H0 0 [] []).sem (ht s0 H0 0 [] []).sem (he s0 H0 0 [] []).sem hL)⟩
end
end PF

namespace PF
open PySem L2

/-! ### calls -/
structure Callee (P : Program) (w : World) (K : PySem.W.Frag) (mg : Str → Option Value) (base : Heap) (ca : Nat → Addr) (x : Str) (k : Nat) (fF : List PyData → Rs Sl) (np : Nat) : Prop where
  ex : ∃ (f : Addr) (fd : FuncData) (ps : List Str), FnOk P w K mg base (L2.CX P w) k f fd ps (spF ⟨K, ca⟩ fF np) ∧ mg x = some (.ref f) ∧ PySem.W.keepIn K (.ref f) = true ∧ Binds K fd ps []
  len : ∀ ds, fF ds ≠ .stuck → ds.length = np
section
variable {ca : Nat → Addr} {X : Cx} {E : XK}
theorem jv_call {x : Str} {k np : Nat} {fF : List PyData → Rs Sl} {e : Expr} {es : List Expr} {t : TA} {Fa : Env → Rs (List PyData)} {p pos : Pos} (C : Callee X.prog X.w X.K X.mg X.base ca x k fF np) (hr : Room k X.A) (hx : Passes (L2.CX X.prog X.w) X E) (ha : JA ca X E (e :: es) t Fa)
    (hg : Gl X x := by rfl) (hdb : (x == ("__debug__" : Str)) = false := by decide) (he : starEach (e :: es) X.env = (false, eval e X.env) :: starEach es X.env := by rfl) (hpl : (backTo pos (starEach es X.env)).any (·.1) = false := by rfl) :
    JV ca X E (.Call (.Name x p) (e :: es) [] pos) (tCall (spF ⟨X.K, ca⟩ fF np) [] E t) (fCall fF Fa) := by
  obtain ⟨f, fd, ps, F, hm, hk, hb⟩ := C.ex
  exact ⟨pe_call F hr hg hm hk hb .nil hx ha.pa hdb he hpl, sem_callF ha.sem C.len⟩
variable {a b : Expr} {ta tb : TE} {Fa Fb : Env → Rs PyData} {p pos p2 : Pos}
theorem js_len (ha : JB ca X E a ta Fa) (hm : X.mg "len" = none) (hg : Gl X "len" := by rfl) (hst : starEach [a] X.env = (false, eval a X.env) :: starEach [] X.env := by rfl) : JS ca X E (.Call (.Name "len" p) [a] [] pos) (tCB (fun xs H Q => ∃ p ys, xs = [.ref p] ∧ (SqL X.K H p ys ∨ SqT X.K H p ys) ∧ Q (.int ys.length) H) (tCons ta tNil)) (fUn lenD Fa) :=
  ⟨pe_callB call_len_seq hg hm PySem.boot_len (pa_cons ha.pe pa_nil hst) (he := hst), sem_call1 callsem_len RS.mono ha.sem⟩
theorem js_abs (ha : JB ca X E a ta Fa) (hm : X.mg "abs" = none) (hg : Gl X "abs" := by rfl) (hst : starEach [a] X.env = (false, eval a X.env) :: starEach [] X.env := by rfl) : JS ca X E (.Call (.Name "abs" p) [a] [] pos) (tCB (fun xs H Q => ∃ i, xs = [.int i] ∧ Q (.int (if i < 0 then -i else i)) H) (tCons ta tNil)) (fUn absD Fa) :=
  ⟨pe_callB call_abs hg hm (by decide +kernel) (pa_cons ha.pe pa_nil hst) (he := hst), sem_call1 callsem_abs RS.mono ha.sem⟩
theorem js_intc (ha : JB ca X E a ta Fa) (hm : X.mg "int" = none) (hg : Gl X "int" := by rfl) (hst : starEach [a] X.env = (false, eval a X.env) :: starEach [] X.env := by rfl) : JS ca X E (.Call (.Name "int" p) [a] [] pos) (tCB (fun xs H Q => (∃ i, xs = [.int i] ∧ Q (.int i) H) ∨ ∃ k, xs = [.bl k] ∧ Q (.int (if k then 1 else 0)) H) (tCons ta tNil)) (fUn int1D Fa) :=
  ⟨pe_callTy call_int1 hg hm (by decide +kernel) (pa_cons ha.pe pa_nil hst) (he := hst), sem_call1 callsem_int RS.mono ha.sem⟩
theorem jv_list (ha : JB ca X E a ta Fa) (hm : X.mg "list" = none) (hg : Gl X "list" := by rfl) (hst : starEach [a] X.env = (false, eval a X.env) :: starEach [] X.env := by rfl) : JV ca X E (.Call (.Name "list" p) [a] [] pos) (tCB (fun xs H Q => ∃ p ys, xs = [.ref p] ∧ (SqL X.K H p ys ∨ SqT X.K H p ys) ∧ ∀ l, H l = none → Q (.ref l) (upd H l (.lst ys))) (tCons ta tNil)) (fUn listD Fa) :=
  ⟨pe_callTy call_list_of hg hm (by decide +kernel) (pa_cons ha.pe pa_nil hst) (he := hst), sem_call1 callsem_list RV.mono' ha.sem⟩
theorem js_tuplec (ha : JB ca X E a ta Fa) (hm : X.mg "tuple" = none) (hg : Gl X "tuple" := by rfl) (hst : starEach [a] X.env = (false, eval a X.env) :: starEach [] X.env := by rfl) : JS ca X E (.Call (.Name "tuple" p) [a] [] pos) (tCB (fun xs H Q => ∃ p ys, xs = [.ref p] ∧ ((SqL X.K H p ys ∧ ∀ l, H l = none → Q (.ref l) (upd H l (.tup ys))) ∨ (SqT X.K H p ys ∧ Q (.ref p) H))) (tCons ta tNil)) (fUn tupleD Fa) :=
  ⟨pe_callTy call_tuple_of hg hm (by decide +kernel) (pa_cons ha.pe pa_nil hst) (he := hst), sem_call1 callsem_tuple RS.mono ha.sem⟩
theorem js_sum (ha : JB ca X E a ta Fa) (hm : X.mg "sum" = none) (hc : X.calm = true) (hg : Gl X "sum" := by rfl) (hst : starEach [a] X.env = (false, eval a X.env) :: starEach [] X.env := by rfl) : JS ca X E (.Call (.Name "sum" p) [a] [] pos) (tCB (rSum X.K) (tCons ta tNil)) (fUn sumD Fa) :=
  ⟨pe_callB (cr_sum hc) hg hm (by decide +kernel) (pa_cons ha.pe pa_nil hst) (he := hst), sem_call1 callsem_sum RS.mono ha.sem⟩
theorem js_min (ha : JB ca X E a ta Fa) (hb : JB ca X E b tb Fb) (hm : X.mg "min" = none) (hc : X.calm = true) (hg : Gl X "min" := by rfl) (hst : starEach [a, b] X.env = (false, eval a X.env) :: starEach [b] X.env := by rfl) (hst2 : starEach [b] X.env = (false, eval b X.env) :: starEach [] X.env := by rfl) (hpl : (backTo pos (starEach [b] X.env)).any (·.1) = false := by rfl) :
    JS ca X E (.Call (.Name "min" p) [a, b] [] pos) (tCB (fun xs H Q => ∃ i j, xs = [.int i, .int j] ∧ Q (.int (if j < i then j else i)) H) (tCons ta (tCons tb tNil))) (fOp min2D Fa Fb) :=
  ⟨pe_callB (call_min2 hc) hg hm (by decide +kernel) (pa_cons ha.pe (pa_cons hb.pe pa_nil hst2) hst) (he := hst) (hpl := hpl), sem_call2 callsem_min RS.mono ha.sem hb.sem⟩
theorem js_max (ha : JB ca X E a ta Fa) (hb : JB ca X E b tb Fb) (hm : X.mg "max" = none) (hc : X.calm = true) (hg : Gl X "max" := by rfl) (hst : starEach [a, b] X.env = (false, eval a X.env) :: starEach [b] X.env := by rfl) (hst2 : starEach [b] X.env = (false, eval b X.env) :: starEach [] X.env := by rfl) (hpl : (backTo pos (starEach [b] X.env)).any (·.1) = false := by rfl) :
    JS ca X E (.Call (.Name "max" p) [a, b] [] pos) (tCB (fun xs H Q => ∃ i j, xs = [.int i, .int j] ∧ Q (.int (if j > i then j else i)) H) (tCons ta (tCons tb tNil))) (fOp max2D Fa Fb) :=
  ⟨pe_callB (call_max2 hc) hg hm (by decide +kernel) (pa_cons ha.pe (pa_cons hb.pe pa_nil hst2) hst) (he := hst) (hpl := hpl), sem_call2 callsem_max RS.mono ha.sem hb.sem⟩
/-- isinstance(x, T), T a built-in class -/
theorem isiD_ok {T : String} {d s : PyData} (h : isiD T d = .ok s) : ∃ b, kitB (tyN d) T = some b ∧ s = .bool b := by
  unfold isiD at h
  split at h
  · rename_i b hb
    cases h
    exact ⟨b, hb, rfl⟩
  · cases h
theorem js_isi (T : String) {x : Str} (ha : JB ca X E a ta Fa) (hm : X.mg "isinstance" = none) (hT : X.mg x = none) (hv : bootBuiltins x = some (.type T)) (hgT : Gl X x := by rfl) (hg : Gl X "isinstance" := by rfl) (hn : x ≠ "__name__" := by decide) (hd : (x == ("__debug__" : Str)) = false := by decide)
    (hst : starEach [a, .Name x p2] X.env = (false, eval a X.env) :: starEach [.Name x p2] X.env := by rfl) (hst2 : starEach [.Name x p2] X.env = (false, eval (.Name x p2) X.env) :: starEach [] X.env := by rfl) :
    JS ca X E (.Call (.Name "isinstance" p) [a, .Name x p2] [] pos) (tCB (rIsi X.K) (tCons ta (tCons (tC (.ty T)) tNil))) (fUn (isiD T) Fa) :=
  ⟨pe_callB call_isi hg hm (by decide +kernel) (pa_cons ha.pe (pa_cons (pe_bltn (v := .ty T) hgT hT hv rfl hn hd) pa_nil hst2) hst) (he := hst), fun G H ρ σ rep hns Q ok er => ha.sem.use rep hns er fun d ed e1 G' H' v n r q hk _ => by
    cases hi : isiD T d with
    | stuck => exact absurd hi hk
    | err z => unfold isiD at hi; split at hi <;> cases hi
    | ok s =>
      obtain ⟨b, hb, rfl⟩ := isiD_ok hi
      exact ⟨v, .ty T, _, .type T, b, rfl, .ty T, db_ty n.gh q, kit_ty hb, ok _ (e1.trans hi) G' H' _ n (.bl b)⟩⟩
end
/-! ### freezing, told -/
def fFz (i : Nat) (F : Env → Rs Out) : Env → Rs Out := fun ρ => F (fz1 i ρ)
theorem jp_fzF {ca : Nat → Addr} {X : Cx} {E : XK} {st : Stmt} {t : TS} {F : Env → Rs Out} (i : Nat) (h : JP ca X E st t F) : JP ca X E st t (fFz i F) := jp_fz i h
/-! ### the end -/
theorem callee_of {P : Program} {w : World} {K : PySem.W.Frag} {mg : Str → Option Value} {base : Heap} {ca : Nat → Addr} {x qual y : Str} {st : Stmt} {f : Addr} {fd : FuncData} {ps : List Str} {k np n : Nat} {F : Env → Rs Out} (Fu : Fun K y qual st f fd) (h : FnOk P w K mg base (L2.CX P w) k f fd ps (spF ⟨K, ca⟩ (fnOf np n F) np))
    (hm : mg x = some (.ref f)) (hb : Binds K fd ps []) : Callee P w K mg base ca x k (fnOf np n F) np := ⟨⟨f, fd, ps, h, hm, Fu.kp, hb⟩, fun ds => fnOf_len ds⟩
/-- what the law promises -/
def spTrue (K : PySem.W.Frag) : Sp := fun vs H Q _ => ∃ (a : Addr) (ns : List Int), vs = [.ref a] ∧ SqL K H a (ns.map V.int) ∧ ns.length ≤ 63 ∧ ∀ H', Q (.bl true) H'
theorem dpall_of_ints {K : PySem.W.Frag} {G : Hp} : ∀ ns : List Int, DpAll K G (ns.map V.int) (ns.map PyData.int)
  | [] => .nil
  | i :: ns => .cons (.int i) (dpall_of_ints ns)
theorem law_of {P : Program} {w : World} {K : PySem.W.Frag} {mg : Str → Option Value} {base : Heap} {ca : Nat → Addr} {k : Nat} {f : Addr} {fd : FuncData} {ps : List Str} {fF : List PyData → Rs Sl} (h : FnOk P w K mg base (L2.CX P w) k f fd ps (spF ⟨K, ca⟩ fF 1))
    (ht : ∀ ns : List Int, ns.length ≤ 63 → fF [.list (ns.map .int)] = .ok (.sh (.bool true))) : FnOk P w K mg base (L2.CX P w) k f fd ps (spTrue K) :=
  h.imp fun vs H Q E hq => by
    obtain ⟨a, ns, e, hs, hl, q⟩ := hq
    have e0 := ht ns hl
    show ∃ G ds, _
    refine ⟨H, [.list (ns.map .int)], Ex.refl H, by rw [e]; exact .cons (.lst hs (dpall_of_ints ns)) .nil, rfl, fun z => (by rw [e0] at z; cases z), fun s es G' H' v n r => ?_, fun x ex => (by rw [e0] at ex; cases ex)⟩
    rw [e0] at es
    cases es
    have r : Dp K G' v (.bool true) := r
    rw [Dp.bl_v r]
    exact q H'
end PF

namespace PF
open PySem L2

/-! ### any, all of ints and truths -/
def truD : PyData → Option Bool
  | .int i => some (i != 0)
  | .bool b => some b
  | _ => none
def tru (d : PyData) : Bool := (truD d).getD false
def anyD : PyData → Rs PyData
  | .list ds => if ds.all (fun d => (truD d).isSome) = true then .ok (.bool (ds.any tru)) else .stuck
  | .tuple ds => if ds.all (fun d => (truD d).isSome) = true then .ok (.bool (ds.any tru)) else .stuck
  | _ => .stuck
def allD : PyData → Rs PyData
  | .list ds => if ds.all (fun d => (truD d).isSome) = true then .ok (.bool (ds.all tru)) else .stuck
  | .tuple ds => if ds.all (fun d => (truD d).isSome) = true then .ok (.bool (ds.all tru)) else .stuck
  | _ => .stuck
def truN (ds : List PyData) (i : Nat) : Bool := ((ds[i]?).map tru).getD false
theorem any_truN : ∀ ds : List PyData, (List.range ds.length).any (truN ds) = ds.any tru
  | [] => rfl
  | d :: ds => by
    rw [List.length_cons, List.range_succ_eq_map, List.any_cons, List.any_map, List.any_cons, ← any_truN ds]
    rfl
theorem all_truN : ∀ ds : List PyData, (List.range ds.length).all (truN ds) = ds.all tru
  | [] => rfl
  | d :: ds => by
    rw [List.length_cons, List.range_succ_eq_map, List.all_cons, List.all_map, List.all_cons, ← all_truN ds]
    rfl
def rTru (K : PySem.W.Frag) (f : List PyData → Bool) : List V → Hp → VK → Prop := fun vs H Q => ∃ (a : Addr) (ys : List V) (ds : List PyData), vs = [V.ref a] ∧ (SqL K H a ys ∨ SqT K H a ys) ∧ DpAll K H ys ds ∧ ds.all (fun d => (truD d).isSome) = true ∧ Q (.bl (f ds)) H
theorem truth_ds {prog : Program} {w : World} {A : Around} {K : PySem.W.Frag} {H : Hp} {ys : List V} {ds : List PyData} {its : List Value} (r : Vals ys its) (q : DpAll K H ys ds) (h : ds.all (fun d => (truD d).isSome) = true) :
    TruthOf prog w A (fun i v => its.toArray[i]? = some v) (truN ds) := fun i v s Q E hv hq => by
  have hv' : its[i]? = some v := by simpa using hv
  have hl : i < ys.length := by
    rw [r.length]
    exact (List.getElem?_eq_some_iff.mp hv').1
  obtain ⟨u, e1, ru⟩ := r.get (List.getElem?_eq_getElem hl)
  rw [hv'] at e1
  cases e1
  obtain ⟨d, e2, hd⟩ := DpAll.get q (List.getElem?_eq_getElem hl)
  have ht : (truD d).isSome = true := List.all_eq_true.mp h d (List.mem_of_getElem? e2)
  have eq : truN ds i = tru d := by unfold truN; rw [e2]; rfl
  rw [eq] at hq
  cases d with
  | int k =>
    rw [Dp.int_v hd] at ru
    obtain ⟨t, rfl⟩ := ru
    exact PyProof.Rows.truthy_int hq
  | bool b =>
    rw [Dp.bl_v hd] at ru
    cases (show _ = Value.bool b from ru)
    exact wpAny_truthy_bool hq
  | none => cases ht
  | str k => cases ht
  | list k => cases ht
  | tuple k => cases ht
  | dict k => cases ht
theorem iter_anyT {prog : Program} {w : World} {A : Around} {E : Value → Shared → Prop} {s : Shared} {l : Addr} {items : Array Value} {Q : Value → Shared → Prop} (hl : s.heap.IsTuple l items)
    (h : ∀ s₂ : Shared, s₂ = { s with heap := s.heap.push { cls := .type "tuple_iterator", data := .fields #[.ref l, .int 0 0] } } →
      (s₂.heap.IsTupleIter s.heap.objs.size l 0 ∧ s₂.heap.IsTuple l items) → l ≠ s.heap.objs.size → Q (.ref s.heap.objs.size) s₂) : wpAny (model prog w) A (pyIter (.ref l)) Q E s := by
  have hlt : l < s.heap.objs.size := by obtain ⟨_, e, _⟩ := hl; exact Heap.lt_size e
  exact wpAny_pyIter_tuple hl (h _ rfl ⟨⟨_, Heap.get?_push_size _ rfl, rfl, rfl⟩, hl.extBut (b := s.heap.objs.size) (fun b o hb e => Heap.get?_push_of_some _ e) (Nat.ne_of_lt hlt)⟩ (Nat.ne_of_lt hlt))
section
variable {X : Cx}
theorem cr_anyD (hc : X.calm = true) : CallR X (.builtin "any") (rTru X.K fun ds => ds.any tru) := by
  intro pins s σ H vs us Q I r h
  obtain ⟨a, ys, ds, rfl, hs, hd, ht, q⟩ := h
  rw [Vals.ref1 r]
  rcases hs with hs | hs
  · obtain ⟨its, rv, hl, _⟩ := I.list hs
    refine call_any_walk (iter_any hl.isList fun s₂ e2 st hne => ?_)
    subst e2
    refine ⟨_, _, _, _, _, _, _, rfl, Walks.list (A := X.A.in1) (I.ok.hd hc) _ a hne its.toArray, st, truth_ds rv hd ht, fun h' tk hk => ?_⟩
    refine ⟨.bl _, H, I.kept fun b o eo => hk b o (fun hmem => ?_) (Heap.get?_push_of_some _ eo), ?_, q⟩
    · rcases List.mem_cons.mp hmem with e1 | hmem
      · exact absurd (e1 ▸ Heap.lt_size eo) (Nat.lt_irrefl _)
      · cases hmem
    · show Value.bool _ = Value.bool (ds.any tru)
      rw [← any_truN, List.size_toArray, ← rv.length, DpAll.length hd]
  · obtain ⟨its, rv, hl, _⟩ := I.tuple hs
    refine call_any_walk (iter_anyT hl fun s₂ e2 st hne => ?_)
    subst e2
    refine ⟨_, _, _, _, _, _, _, rfl, Walks.tuple (A := X.A.in1) (I.ok.hd hc) _ a hne its.toArray, st, truth_ds rv hd ht, fun h' tk hk => ?_⟩
    refine ⟨.bl _, H, I.kept fun b o eo => hk b o (fun hmem => ?_) (Heap.get?_push_of_some _ eo), ?_, q⟩
    · rcases List.mem_cons.mp hmem with e1 | hmem
      · exact absurd (e1 ▸ Heap.lt_size eo) (Nat.lt_irrefl _)
      · cases hmem
    · show Value.bool _ = Value.bool (ds.any tru)
      rw [← any_truN, List.size_toArray, ← rv.length, DpAll.length hd]
theorem cr_allD (hc : X.calm = true) : CallR X (.builtin "all") (rTru X.K fun ds => ds.all tru) := by
  intro pins s σ H vs us Q I r h
  obtain ⟨a, ys, ds, rfl, hs, hd, ht, q⟩ := h
  rw [Vals.ref1 r]
  rcases hs with hs | hs
  · obtain ⟨its, rv, hl, _⟩ := I.list hs
    refine call_all_walk (iter_any hl.isList fun s₂ e2 st hne => ?_)
    subst e2
    refine ⟨_, _, _, _, _, _, _, rfl, Walks.list (A := X.A.in1) (I.ok.hd hc) _ a hne its.toArray, st, truth_ds rv hd ht, fun h' tk hk => ?_⟩
    refine ⟨.bl _, H, I.kept fun b o eo => hk b o (fun hmem => ?_) (Heap.get?_push_of_some _ eo), ?_, q⟩
    · rcases List.mem_cons.mp hmem with e1 | hmem
      · exact absurd (e1 ▸ Heap.lt_size eo) (Nat.lt_irrefl _)
      · cases hmem
    · show Value.bool _ = Value.bool (ds.all tru)
      rw [← all_truN, List.size_toArray, ← rv.length, DpAll.length hd]
  · obtain ⟨its, rv, hl, _⟩ := I.tuple hs
    refine call_all_walk (iter_anyT hl fun s₂ e2 st hne => ?_)
    subst e2
    refine ⟨_, _, _, _, _, _, _, rfl, Walks.tuple (A := X.A.in1) (I.ok.hd hc) _ a hne its.toArray, st, truth_ds rv hd ht, fun h' tk hk => ?_⟩
    refine ⟨.bl _, H, I.kept fun b o eo => hk b o (fun hmem => ?_) (Heap.get?_push_of_some _ eo), ?_, q⟩
    · rcases List.mem_cons.mp hmem with e1 | hmem
      · exact absurd (e1 ▸ Heap.lt_size eo) (Nat.lt_irrefl _)
      · cases hmem
    · show Value.bool _ = Value.bool (ds.all tru)
      rw [← all_truN, List.size_toArray, ← rv.length, DpAll.length hd]
end
theorem db_seq {K : PySem.W.Frag} {G H : Hp} {x : V} {ds : List PyData} {b : Bool} (e : Ex G H) (h : Db K G H x (if b then .list ds else .tuple ds)) : ∃ a ys, x = .ref a ∧ (SqL K H a ys ∨ SqT K H a ys) ∧ DpAll K H ys ds := by
  cases b with
  | true =>
    obtain ⟨a, ys, rfl, h1, h2⟩ := db_list e h
    exact ⟨a, ys, rfl, .inl h1, DpAll.ex e h2⟩
  | false =>
    obtain ⟨a, ys, rfl, h1, h2⟩ := db_tup h
    exact ⟨a, ys, rfl, .inr (Ex.sqt e h1), DpAll.ex e h2⟩
theorem callsem_any {c : Pc} : CallSem c (rTru c.K fun ds => ds.any tru) anyD (RS c) where
  go := fun G H x a s e da hs Q q => by
    unfold anyD at hs
    split at hs
    · split at hs
      · rename_i ds h
        cases hs
        obtain ⟨p, ys, rfl, h1, h2⟩ := db_seq (b := true) e da
        exact ⟨p, ys, ds, rfl, h1, h2, h, q G H _ (Nx.refl e) (.bl _)⟩
      · cases hs
    · split at hs
      · rename_i ds h
        cases hs
        obtain ⟨p, ys, rfl, h1, h2⟩ := db_seq (b := false) e da
        exact ⟨p, ys, ds, rfl, h1, h2, h, q G H _ (Nx.refl e) (.bl _)⟩
      · cases hs
    · cases hs
  ne := fun a x h => by
    unfold anyD at h
    split at h
    · split at h <;> cases h
    · split at h <;> cases h
    · cases h
theorem callsem_all {c : Pc} : CallSem c (rTru c.K fun ds => ds.all tru) allD (RS c) where
  go := fun G H x a s e da hs Q q => by
    unfold allD at hs
    split at hs
    · split at hs
      · rename_i ds h
        cases hs
        obtain ⟨p, ys, rfl, h1, h2⟩ := db_seq (b := true) e da
        exact ⟨p, ys, ds, rfl, h1, h2, h, q G H _ (Nx.refl e) (.bl _)⟩
      · cases hs
    · split at hs
      · rename_i ds h
        cases hs
        obtain ⟨p, ys, rfl, h1, h2⟩ := db_seq (b := false) e da
        exact ⟨p, ys, ds, rfl, h1, h2, h, q G H _ (Nx.refl e) (.bl _)⟩
      · cases hs
    · cases hs
  ne := fun a x h => by
    unfold allD at h
    split at h
    · split at h <;> cases h
    · split at h <;> cases h
    · cases h
section
variable {ca : Nat → Addr} {X : Cx} {E : XK} {a : Expr} {ta : TE} {Fa : Env → Rs PyData} {p pos : Pos}
theorem js_any (ha : JB ca X E a ta Fa) (hm : X.mg "any" = none) (hc : X.calm = true) (hg : Gl X "any" := by rfl) (hst : starEach [a] X.env = (false, eval a X.env) :: starEach [] X.env := by rfl) : JS ca X E (.Call (.Name "any" p) [a] [] pos) (tCB (rTru X.K fun ds => ds.any tru) (tCons ta tNil)) (fUn anyD Fa) :=
  ⟨pe_callB (cr_anyD hc) hg hm (by decide +kernel) (pa_cons ha.pe pa_nil hst) (he := hst), sem_call1 callsem_any RS.mono ha.sem⟩
theorem js_all (ha : JB ca X E a ta Fa) (hm : X.mg "all" = none) (hc : X.calm = true) (hg : Gl X "all" := by rfl) (hst : starEach [a] X.env = (false, eval a X.env) :: starEach [] X.env := by rfl) : JS ca X E (.Call (.Name "all" p) [a] [] pos) (tCB (rTru X.K fun ds => ds.all tru) (tCons ta tNil)) (fUn allD Fa) :=
  ⟨pe_callB (cr_allD hc) hg hm (by decide +kernel) (pa_cons ha.pe pa_nil hst) (he := hst), sem_call1 callsem_all RS.mono ha.sem⟩
end

/-! ### what changes a list of our own -/
def ownL : Option Sl → Rs (List PyData)
  | some (.ol ds) => .ok ds
  | _ => .stuck
theorem ownL_ok {o : Option Sl} {β : Type} {k : List PyData → Rs β} (h : (ownL o >>= k) ≠ .stuck) : ∃ ds, o = some (.ol ds) := by
  unfold ownL at h
  split at h
  · exact ⟨_, rfl⟩
  · exact absurd rfl h
theorem mut_ol {c : Pc} {G0 H0 G H : Hp} {ρ : Env} {σ : L2.St} {i : Nat} {ds ds' : List PyData} {p : Addr} {xs xs' : List V} (rep : Rep c G H ρ σ) (en : Ent G0 H0 G H ρ σ) (hs : ρ[i]? = some (.ol ds)) (hp : σ[i]? = some (some (.ref p)))
    (gp : G p = none) (hH : H p = some (.lst xs)) (q : DpAll c.K G xs' ds') : Rep c G (upd H p (.lst xs')) (ρ.set i (.ol ds')) σ ∧ Ent G0 H0 G (upd H p (.lst xs')) (ρ.set i (.ol ds')) σ := by
  have h0 := en.own i _ p hs rfl hp
  refine ⟨rep.mut hs rfl hp gp ⟨p, xs', rfl, gp, upd_same, q⟩, ⟨⟨en.nx.g, fun a u e => ?_, fun a u e => ?_, en.nx.fr⟩, fun j s r e w f => ?_⟩⟩
  · rw [upd_ne (ne_of_none e h0)]
    exact en.nx.h a u e
  · rw [upd_ne (ne_of_none e gp)]
    exact rep.gh a u e
  · by_cases hij : i = j
    · subst hij
      rw [hp] at f
      cases f
      exact h0
    · rw [List.getElem?_set, if_neg hij] at e
      exact en.own j s r e w f
/-- a method that changes the list -/
def fMut (i : Nat) (f : List PyData → List PyData → Rs (List PyData)) (F : Env → Rs (List PyData)) : Env → Rs Out := fun ρ => ownL ρ[i]? >>= fun ds => F ρ >>= fun as => f ds as >>= fun ds' => .ok (.nx (ρ.set i (.ol ds')))
structure MutSem (K : PySem.W.Frag) (r : V → List V → Hp → VK → Prop) (f : List PyData → List PyData → Rs (List PyData)) : Prop where
  go : ∀ G H p xs ds as vs ds', Ex G H → H p = some (.lst xs) → DpAll K G xs ds → DpAll K G vs as → f ds as = .ok ds' → ∀ Q : VK, (∀ xs' w, DpAll K G xs' ds' → Q w (upd H p (.lst xs'))) → r (.ref p) vs H Q
  ne : ∀ ds as x, f ds as ≠ .err x
theorem sem_mut {c : Pc} {E : XK} {r : V → List V → Hp → VK → Prop} {f : List PyData → List PyData → Rs (List PyData)} {t : TA} {F : Env → Rs (List PyData)} (i : Nat) (m : MutSem c.K r f) (h : SemG c E t F (RA c)) : SemP c E (tDrop (tBM c.K "list" r (tVar i) t)) (fMut i f F) := by
  intro G0 H0 G H ρ σ rep en hns D nx rt er
  obtain ⟨ds, hs⟩ := ownL_ok hns
  have e0 : fMut i f F ρ = (F ρ >>= fun as => f ds as >>= fun ds' => .ok (.nx (ρ.set i (.ol ds')))) := by unfold fMut; rw [hs]; rfl
  rw [e0] at hns nx er
  obtain ⟨o, e1, p, xs, rfl, gp, hp, q⟩ := rep.sl i _ hs
  refine ⟨.ref p, e1, .inl ⟨rfl, xs, .inl (.inl hp)⟩, ?_⟩
  refine h.use rep hns (fun x e G' H' cl dd n => er x e G' H' cl dd (en.nx.trans n)) fun as es e2 G1 H1 vs n1 r1 q1 hk er1 => ?_
  obtain ⟨o', e3, p', xs', z, gp1, hp1, qq⟩ := r1.sl i _ hs
  rw [e1] at e3
  cases e3
  cases z
  cases hf : f ds as with
  | stuck => exact absurd (by rw [hf]; rfl) hk
  | err x => exact absurd hf (m.ne ds as x)
  | ok ds' =>
    refine m.go G1 H1 p xs' ds as vs ds' n1.gh hp1 qq q1 hf _ fun ys w hy => ?_
    obtain ⟨r2, n2⟩ := mut_ol r1 (en.go n1) hs e1 gp1 hp1 hy
    exact nx _ (by rw [e2, hf]; rfl) G1 _ σ r2 n2
def appD (ds as : List PyData) : Rs (List PyData) := match as with
  | [d] => if ds.length < lim then .ok (ds ++ [d]) else .stuck
  | _ => .stuck
def clrD (_ as : List PyData) : Rs (List PyData) := match as with
  | [] => .ok []
  | _ => .stuck
def revsD (ds as : List PyData) : Rs (List PyData) := match as with
  | [] => .ok ds.reverse
  | _ => .stuck
def insD (ds as : List PyData) : Rs (List PyData) := match as with
  | [.int i, d] => if ds.length < lim ∧ 0 ≤ i ∧ i < 2 ^ 63 then .ok (ds.take i.toNat ++ [d] ++ ds.drop i.toNat) else .stuck
  | _ => .stuck
def remD (ds as : List PyData) : Rs (List PyData) := match as with
  | [d] => if SeqAt.shaped d = true ∧ SeqAt.shaped (.list ds) = true then match ds.findIdx? (fun z => PyData.eqv z d) with
    | some j => .ok (ds.eraseIdx j)
    | none => .stuck
    else .stuck
  | _ => .stuck
def popAtD (ds as : List PyData) : Rs (List PyData) := match as with
  | [.int i] => if 0 ≤ i ∧ i < ds.length ∧ ds.length ≤ lim then .ok (ds.eraseIdx i.toNat) else .stuck
  | _ => .stuck
theorem mut_app {K : PySem.W.Frag} : MutSem K rAppend appD where
  go := fun G H p xs ds as vs ds' e hp q q1 hf Q k => by
    unfold appD at hf
    split at hf
    · split at hf
      · rename_i d hl
        cases hf
        cases q1 with
        | cons qd qn =>
          cases qn
          exact ⟨p, xs, _, rfl, rfl, hp, lim_lt (by rw [DpAll.length q]; exact hl), k _ _ (DpAll.append q (.cons qd .nil))⟩
      · cases hf
    · cases hf
  ne := fun ds as x h => by
    unfold appD at h
    split at h
    · split at h <;> cases h
    · cases h
theorem mut_clr {K : PySem.W.Frag} : MutSem K rClear clrD where
  go := fun G H p xs ds as vs ds' e hp q q1 hf Q k => by
    unfold clrD at hf
    split at hf
    · cases hf
      cases q1
      exact ⟨p, xs, rfl, rfl, hp, k _ _ .nil⟩
    · cases hf
  ne := fun ds as x h => by
    unfold clrD at h
    split at h <;> cases h
theorem mut_revs {K : PySem.W.Frag} : MutSem K rReverse revsD where
  go := fun G H p xs ds as vs ds' e hp q q1 hf Q k => by
    unfold revsD at hf
    split at hf
    · cases hf
      cases q1
      exact ⟨p, xs, rfl, rfl, hp, k _ _ (DpAll.reverse q)⟩
    · cases hf
  ne := fun ds as x h => by
    unfold revsD at h
    split at h <;> cases h
def rInsert : V → List V → Hp → VK → Prop := fun x vs H Q => ∃ (l : Addr) (xs : List V) (i : Int) (y : V), x = .ref l ∧ vs = [.int i, y] ∧ H l = some (.lst xs) ∧ xs.length < sizeLine ∧ 0 ≤ i ∧ i < 2 ^ 63 ∧
    Q .non (upd H l (.lst (xs.take i.toNat ++ [y] ++ xs.drop i.toNat)))
theorem mut_ins {K : PySem.W.Frag} : MutSem K rInsert insD where
  go := fun G H p xs ds as vs ds' e hp q q1 hf Q k => by
    unfold insD at hf
    split at hf
    · split at hf
      · rename_i i d hl
        cases hf
        cases q1 with
        | cons qi qn =>
          cases qn with
          | cons qd qn =>
            cases qn
            cases Dp.int_v qi
            exact ⟨p, xs, i, _, rfl, rfl, hp, lim_lt (by rw [DpAll.length q]; exact hl.1), hl.2.1, hl.2.2, k _ _ (DpAll.append (DpAll.append (DpAll.take _ q) (.cons qd .nil)) (DpAll.drop _ q))⟩
      · cases hf
    · cases hf
  ne := fun ds as x h => by
    unfold insD at h
    split at h
    · split at h <;> cases h
    · cases h
theorem mut_popAt {K : PySem.W.Frag} : MutSem K rPopAt popAtD where
  go := fun G H p xs ds as vs ds' e hp q q1 hf Q k => by
    unfold popAtD at hf
    split at hf
    · split at hf
      · rename_i i hl
        cases hf
        cases q1 with
        | cons qi qn =>
          cases qn
          cases Dp.int_v qi
          have e2 := DpAll.length q
          have hlt : i.toNat < xs.length := by omega
          have hz : (lim : Nat) < 2 ^ 63 := by decide
          exact ⟨p, xs, i, i.toNat, xs[i.toNat], rfl, rfl, hp, by omega, by have := hl.2.2; omega, seqIndex_of hl.1 (by omega), List.getElem?_eq_getElem hlt, k _ _ (DpAll.eraseIdx _ q)⟩
      · cases hf
    · cases hf
  ne := fun ds as x h => by
    unfold popAtD at h
    split at h
    · split at h <;> cases h
    · cases h
def rRemD (K : PySem.W.Frag) : V → List V → Hp → VK → Prop := fun x vs H Q => ∃ (l : Addr) (xs : List V) (y : V) (d : PyData) (ds : List PyData) (j : Nat) (z : PyData), x = .ref l ∧ vs = [y] ∧ H l = some (.lst xs) ∧ DpAll K H xs ds ∧ Dp K H y d ∧
  SeqAt.shaped (.list ds) = true ∧ SeqAt.shaped d = true ∧ ds[j]? = some z ∧ PyData.eqv z d = true ∧ (∀ (m : Nat) (z' : PyData), m < j → ds[m]? = some z' → PyData.eqv z' d = false) ∧ Q .non (upd H l (.lst (xs.eraseIdx j)))
theorem mt_removeD {X : Cx} (hu : X.A.units + 65 < cLine) : MtR X "list.remove" (rRemD X.K) := by
  intro pins s σ H x xs0 v us Q I rx rxs h
  obtain ⟨a, xs, y, d, ds, j, z, rfl, rfl, hH, ha, hy, sl, sd, hz, hzj, hno, q⟩ := h
  cases rx
  obtain ⟨uy, rfl, ry⟩ := rxs.one
  obtain ⟨bs, r1⟩ := Dp.reads I d y uy hy ry
  have hxs : PyData.canLayAll0 ds = true := SeqAt.canLay_of_shaped sl
  have hroom : X.A.units + 1 + min (PyData.depthAll ds) d.depth < cLine := PyProof.Rows.room_in_shaped sd hu
  obtain ⟨hlen, its, n, rv, hl, ho⟩ := I.lstM hH
  obtain ⟨as, h4⟩ := DpAll.reads I ds _ its ha rv
  have hn : its.length = ds.length := SeqAt.ReadsAll.length ds its as h4
  have hmap : its.map (SeqAt.readOf s.heap) = ds := SeqAt.readsAll_map ds its as hxs h4
  obtain ⟨hjd, _⟩ := List.getElem?_eq_some_iff.mp hz
  have hjl : j < its.length := by omega
  have hj : j < its.toArray.size := by simpa using hjl
  have at_ : ∀ (m : Nat) (hm : m < its.toArray.size) (z' : PyData), ds[m]? = some z' → SeqAt.readOf s.heap its.toArray[m] = z' := by
    intro m hm z' hz'
    have hml : m < its.length := by simpa using hm
    rw [← hmap, List.getElem?_map, List.getElem?_eq_getElem hml] at hz'
    have e1 : SeqAt.readOf s.heap its[m] = z' := Option.some.inj (show some (SeqAt.readOf s.heap its[m]) = some z' from hz')
    simpa using e1
  refine call_meets PySem.F.slot_list_remove ⟨_, ho, rfl⟩ PySem.F.entry_list_remove (PySem.F.args_list_remove_2 _ _)
    (SeqAt.list_removeAt a its.toArray n none #[] uy (fun u => PyData.eqv (SeqAt.readOf s.heap u) d) j hj ?_ ?_ (by rw [List.size_toArray]; omega)) ⟨ho, SeqAt.items_eqAt (vs := its.toArray) (show ReadsAll s.heap its.toArray.toList ds as from h4) r1 hxs (SeqAt.canLay_of_shaped sd) hroom, ?_⟩
  · show PyData.eqv (SeqAt.readOf s.heap its.toArray[j]) d = true
    rw [at_ j hj z hz]
    exact hzj
  · intro m hm hmj
    have hmd : m < ds.length := by omega
    have hz' : ds[m]? = some ds[m] := List.getElem?_eq_getElem hmd
    show PyData.eqv (SeqAt.readOf s.heap its.toArray[m]) d = false
    rw [at_ m hm _ hz']
    exact hno m _ hmj hz'
  · refine ⟨.non, _, I.lset (its' := its.eraseIdx j) hH ho ?_ (rv.eraseIdx j) ?_, rfl, q⟩
    · show its.toArray.eraseIdxIfInBounds j = (its.eraseIdx j).toArray
      rw [List.eraseIdxIfInBounds_toArray]
    · have := len_erase xs j
      omega
theorem mut_rem {K : PySem.W.Frag} : MutSem K (rRemD K) remD where
  go := fun G H p xs ds as vs ds' e hp q q1 hf Q k => by
    unfold remD at hf
    split at hf
    · split at hf
      · rename_i d hl
        split at hf
        · rename_i j hj
          cases hf
          cases q1 with
          | cons qd qn =>
            cases qn
            obtain ⟨h1, h2, h3⟩ := List.findIdx?_eq_some_iff_getElem.mp hj
            refine ⟨p, xs, _, d, ds, j, ds[j], rfl, rfl, hp, DpAll.ex e q, Dp.ex e qd, hl.2, hl.1, List.getElem?_eq_getElem h1, h2, fun m z' hm hz' => ?_, k _ _ (DpAll.eraseIdx _ q)⟩
            obtain ⟨hm1, rfl⟩ := List.getElem?_eq_some_iff.mp hz'
            have := h3 m hm
            simpa using this
        · cases hf
      · cases hf
    · cases hf
  ne := fun ds as x h => by
    unfold remD at h
    split at h
    · split at h
      · split at h <;> cases h
      · cases h
    · cases h
def fApp (i : Nat) (F : Env → Rs PyData) : Env → Rs Out := fMut i appD (fCons F fNil)
def fClr (i : Nat) : Env → Rs Out := fMut i clrD fNil
def fRevs (i : Nat) : Env → Rs Out := fMut i revsD fNil
def fIns (i : Nat) (F : Env → Rs (List PyData)) : Env → Rs Out := fMut i insD F
def fRem (i : Nat) (F : Env → Rs PyData) : Env → Rs Out := fMut i remD (fCons F fNil)
def fPopAt (i : Nat) (F : Env → Rs PyData) : Env → Rs Out := fMut i popAtD (fCons F fNil)
section
variable {ca : Nat → Addr} {X : Cx} {E : XK} {e : Expr} {es : List Expr} {te : TE} {ta : TA} {Fe : Env → Rs PyData} {Fa : Env → Rs (List PyData)} {x : Str} {p apos cpos pos : Pos}
theorem jp_mut {name : Str} {id : String} {r : V → List V → Hp → VK → Prop} {f : List PyData → List PyData → Rs (List PyData)} (i : Nat) (slot : Slot "list" name id) (hty : typeOf (.builtin id) = pure (.type "method_descriptor")) (hm : MtR X id r) (m : MutSem X.K r f) (hx : PE X (.Name x p) (tVar i)) (ha : JA ca X E (e :: es) ta Fa)
    (hbase : attributeBase (.Name x p) name X.env (eval (.Name x p) X.env) = eval (.Name x p) X.env)
    (hfew : ((backTo cpos (starEach (e :: es) X.env)).all (fun x => !x.1) && (backToKw cpos (keywordEach [] X.env)).all (fun x => x.1.isSome)
      && decide ((e :: es).length + ([] : List Keyword).length + (if ([] : List Keyword).isEmpty then 0 else 1) < 30)) = true)
    (hline : (apos.endLine == cpos.line) = true) (hs : starEach (e :: es) X.env = (false, eval e X.env) :: starEach es X.env) (hplain : (backTo cpos (starEach es X.env)).any (·.1) = false)
    (hsw : swapsWith (.Call (.Attribute (.Name x p) name apos) (e :: es) [] cpos) none pos.line X.env = pure false) :
    JP ca X E (.Expr (.Call (.Attribute (.Name x p) name apos) (e :: es) [] cpos) pos) (tDrop (tBM X.K "list" r (tVar i) ta)) (fMut i f Fa) :=
  ⟨ps_expr (pe_bm PySem.F.plainAttrs_list slot hty hm hx ha.pa hbase hfew hline hs hplain) hsw, sem_mut i m ha.sem⟩
theorem jp_mut0 {name : Str} {id : String} {r : V → List V → Hp → VK → Prop} {f : List PyData → List PyData → Rs (List PyData)} (i : Nat) (slot : Slot "list" name id) (hty : typeOf (.builtin id) = pure (.type "method_descriptor")) (hm : MtR X id r) (m : MutSem X.K r f) (hx : PE X (.Name x p) (tVar i))
    (hbase : attributeBase (.Name x p) name X.env (eval (.Name x p) X.env) = eval (.Name x p) X.env)
    (hline : (apos.endLine == cpos.line) = true)
    (hsw : swapsWith (.Call (.Attribute (.Name x p) name apos) [] [] cpos) none pos.line X.env = pure false) :
    JP ca X E (.Expr (.Call (.Attribute (.Name x p) name apos) [] [] cpos) pos) (tDrop (tBM0 X.K "list" r (tVar i))) (fMut i f fNil) :=
  ⟨ps_expr (pe_bm0 PySem.F.plainAttrs_list slot hty hm hx hbase hline) hsw, sem_mut i m (ja_nil (ca := ca) (X := X) (E := E)).sem⟩
theorem jp_append (i : Nat) (hx : PE X (.Name x p) (tVar i)) (ha : JS ca X E e te Fe)
    (hbase : attributeBase (.Name x p) "append" X.env (eval (.Name x p) X.env) = eval (.Name x p) X.env := by rfl)
    (hfew : ((backTo cpos (starEach [e] X.env)).all (fun x => !x.1) && (backToKw cpos (keywordEach [] X.env)).all (fun x => x.1.isSome)
      && decide (([e]).length + ([] : List Keyword).length + (if ([] : List Keyword).isEmpty then 0 else 1) < 30)) = true := by rfl)
    (hline : (apos.endLine == cpos.line) = true := by rfl) (hs : starEach [e] X.env = (false, eval e X.env) :: starEach [] X.env := by rfl) (hplain : (backTo cpos (starEach [] X.env)).any (·.1) = false := by rfl)
    (hsw : swapsWith (.Call (.Attribute (.Name x p) "append" apos) [e] [] cpos) none pos.line X.env = pure false := by rfl) :
    JP ca X E (.Expr (.Call (.Attribute (.Name x p) "append" apos) [e] [] cpos) pos) (tDrop (tBM X.K "list" rAppend (tVar i) (tCons te tNil))) (fApp i Fe) :=
  jp_mut i PySem.F.slot_list_append PySem.F.type_list_append mt_append mut_app hx (ja_cons ha ja_nil hs) hbase hfew hline hs hplain hsw
theorem jp_remove (i : Nat) (hx : PE X (.Name x p) (tVar i)) (ha : JS ca X E e te Fe) (hu : X.A.units + 65 < cLine)
    (hbase : attributeBase (.Name x p) "remove" X.env (eval (.Name x p) X.env) = eval (.Name x p) X.env := by rfl)
    (hfew : ((backTo cpos (starEach [e] X.env)).all (fun x => !x.1) && (backToKw cpos (keywordEach [] X.env)).all (fun x => x.1.isSome)
      && decide (([e]).length + ([] : List Keyword).length + (if ([] : List Keyword).isEmpty then 0 else 1) < 30)) = true := by rfl)
    (hline : (apos.endLine == cpos.line) = true := by rfl) (hs : starEach [e] X.env = (false, eval e X.env) :: starEach [] X.env := by rfl) (hplain : (backTo cpos (starEach [] X.env)).any (·.1) = false := by rfl)
    (hsw : swapsWith (.Call (.Attribute (.Name x p) "remove" apos) [e] [] cpos) none pos.line X.env = pure false := by rfl) :
    JP ca X E (.Expr (.Call (.Attribute (.Name x p) "remove" apos) [e] [] cpos) pos) (tDrop (tBM X.K "list" (rRemD X.K) (tVar i) (tCons te tNil))) (fRem i Fe) :=
  jp_mut i PySem.F.slot_list_remove PySem.F.type_list_remove (mt_removeD hu) mut_rem hx (ja_cons ha ja_nil hs) hbase hfew hline hs hplain hsw
theorem jp_popAt (i : Nat) (hx : PE X (.Name x p) (tVar i)) (ha : JS ca X E e te Fe)
    (hbase : attributeBase (.Name x p) "pop" X.env (eval (.Name x p) X.env) = eval (.Name x p) X.env := by rfl)
    (hfew : ((backTo cpos (starEach [e] X.env)).all (fun x => !x.1) && (backToKw cpos (keywordEach [] X.env)).all (fun x => x.1.isSome)
      && decide (([e]).length + ([] : List Keyword).length + (if ([] : List Keyword).isEmpty then 0 else 1) < 30)) = true := by rfl)
    (hline : (apos.endLine == cpos.line) = true := by rfl) (hs : starEach [e] X.env = (false, eval e X.env) :: starEach [] X.env := by rfl) (hplain : (backTo cpos (starEach [] X.env)).any (·.1) = false := by rfl)
    (hsw : swapsWith (.Call (.Attribute (.Name x p) "pop" apos) [e] [] cpos) none pos.line X.env = pure false := by rfl) :
    JP ca X E (.Expr (.Call (.Attribute (.Name x p) "pop" apos) [e] [] cpos) pos) (tDrop (tBM X.K "list" rPopAt (tVar i) (tCons te tNil))) (fPopAt i Fe) :=
  jp_mut i PySem.F.slot_list_pop PySem.F.type_list_pop mt_popAt mut_popAt hx (ja_cons ha ja_nil hs) hbase hfew hline hs hplain hsw
theorem jp_insert (i : Nat) {e2 : Expr} (hx : PE X (.Name x p) (tVar i)) (ha : JA ca X E [e, e2] ta Fa)
    (hbase : attributeBase (.Name x p) "insert" X.env (eval (.Name x p) X.env) = eval (.Name x p) X.env := by rfl)
    (hfew : ((backTo cpos (starEach [e, e2] X.env)).all (fun x => !x.1) && (backToKw cpos (keywordEach [] X.env)).all (fun x => x.1.isSome)
      && decide (([e, e2]).length + ([] : List Keyword).length + (if ([] : List Keyword).isEmpty then 0 else 1) < 30)) = true := by rfl)
    (hline : (apos.endLine == cpos.line) = true := by rfl) (hs : starEach [e, e2] X.env = (false, eval e X.env) :: starEach [e2] X.env := by rfl) (hplain : (backTo cpos (starEach [e2] X.env)).any (·.1) = false := by rfl)
    (hsw : swapsWith (.Call (.Attribute (.Name x p) "insert" apos) [e, e2] [] cpos) none pos.line X.env = pure false := by rfl) :
    JP ca X E (.Expr (.Call (.Attribute (.Name x p) "insert" apos) [e, e2] [] cpos) pos) (tDrop (tBM X.K "list" rInsert (tVar i) ta)) (fIns i Fa) :=
  jp_mut i PySem.F.slot_list_insert PySem.F.type_list_insert mt_insert mut_ins hx ha hbase hfew hline hs hplain hsw
theorem jp_clear (i : Nat) (hx : PE X (.Name x p) (tVar i))
    (hbase : attributeBase (.Name x p) "clear" X.env (eval (.Name x p) X.env) = eval (.Name x p) X.env := by rfl)
    (hline : (apos.endLine == cpos.line) = true := by rfl)
    (hsw : swapsWith (.Call (.Attribute (.Name x p) "clear" apos) [] [] cpos) none pos.line X.env = pure false := by rfl) :
    JP ca X E (.Expr (.Call (.Attribute (.Name x p) "clear" apos) [] [] cpos) pos) (tDrop (tBM0 X.K "list" rClear (tVar i))) (fClr i) :=
  jp_mut0 i PySem.F.slot_list_clear PySem.F.type_list_clear mt_clear mut_clr hx hbase hline hsw
theorem jp_reverse (i : Nat) (hx : PE X (.Name x p) (tVar i))
    (hbase : attributeBase (.Name x p) "reverse" X.env (eval (.Name x p) X.env) = eval (.Name x p) X.env := by rfl)
    (hline : (apos.endLine == cpos.line) = true := by rfl)
    (hsw : swapsWith (.Call (.Attribute (.Name x p) "reverse" apos) [] [] cpos) none pos.line X.env = pure false := by rfl) :
    JP ca X E (.Expr (.Call (.Attribute (.Name x p) "reverse" apos) [] [] cpos) pos) (tDrop (tBM0 X.K "list" rReverse (tVar i))) (fRevs i) :=
  jp_mut0 i PySem.F.slot_list_reverse PySem.F.type_list_reverse mt_reverse mut_revs hx hbase hline hsw
/-- xs[k] = v -/
def setP (ds : List PyData) (k d : PyData) : Rs (List PyData) := match k with
  | .int k => match ixN ds.length k with
    | some j => .ok (ds.set j d)
    | none => .stuck
  | _ => .stuck
def fSetIx (i : Nat) (Fv Fk : Env → Rs PyData) : Env → Rs Out := fun ρ => Fv ρ >>= fun d => ownL ρ[i]? >>= fun ds => Fk ρ >>= fun k => setP ds k d >>= fun ds' => .ok (.nx (ρ.set i (.ol ds')))
theorem jp_setIx (i : Nat) {v k : Expr} {tv tk : TE} {Fv Fk : Env → Rs PyData} (hv : JS ca X E v tv Fv) (hx : PE X (.Name x p) (tVar i)) (hk : JB ca X E k tk Fk)
    (ha : ∀ w, assign (.Subscript (.Name x p) k apos) X.env w = (do
      let ov ← holding [w] (eval (.Name x p) X.env)
      let iv ← holding [w, ov] (eval k X.env)
      standAt apos
      holding [w, ov, iv] (setItem ov iv w)
      release [w, ov, iv] []) := by intro _; rfl) (hs : swapsWithSole [.Subscript (.Name x p) k apos] v pos.line X.env = pure false := by rfl) (hw : swappedStores [.Subscript (.Name x p) k apos] v X.env = pure none := by rfl) :
    JP ca X E (.Assign [.Subscript (.Name x p) k apos] v pos) (tAsg tv (gSub (tVar i) tk rSetL)) (fSetIx i Fv Fk) := by
  refine ⟨ps_asg hv.pe (pg_sub hx hk.pe set_list ha) hs hw, fun G0 H0 G H ρ σ rep en hns D nx rt er => ?_⟩
  refine hv.sem.use rep hns (fun x e G' H' cl dd n => er x e G' H' cl dd (en.nx.trans n)) fun d ed e1 G1 H1 u n1 r1 q1 h1 er1 => ?_
  have nx0 : ∀ ρ', (ownL ρ[i]? >>= fun ds => Fk ρ >>= fun k => setP ds k d >>= fun ds' => (.ok (.nx (ρ.set i (.ol ds'))) : Rs Out)) = .ok (.nx ρ') → ∀ G' H' σ', Rep ⟨X.K, ca⟩ G' H' ρ' σ' → Ent G0 H0 G' H' ρ' σ' → D.nx σ' H' := fun ρ' e => nx ρ' (e1.trans e)
  replace nx := nx0
  obtain ⟨ds, hs⟩ := ownL_ok h1
  have e0 : (ownL ρ[i]? >>= fun ds => Fk ρ >>= fun k => setP ds k d >>= fun ds' => (.ok (.nx (ρ.set i (.ol ds'))) : Rs Out)) = (Fk ρ >>= fun k => setP ds k d >>= fun ds' => (.ok (.nx (ρ.set i (.ol ds'))) : Rs Out)) := by rw [hs]; rfl
  rw [e0] at h1 er1 nx
  obtain ⟨o, e2, pp, xs, rfl, gp, hp, qq⟩ := r1.sl i _ hs
  refine ⟨.ref pp, e2, ?_⟩
  refine hk.sem.use r1 h1 er1 fun kd ek e3 G2 H2 w n2 r2 q2 h2 er2 => ?_
  rw [e3] at nx
  obtain ⟨o', e4, p', xs', z, gp2, hp2, qq2⟩ := r2.sl i _ hs
  rw [e2] at e4
  cases e4
  cases z
  unfold setP at h2 nx
  split at h2
  · rename_i kk
    split at h2
    · rename_i j hj
      cases db_int q2
      have hl := DpAll.length qq2
      refine ⟨pp, xs', kk, j, rfl, rfl, hp2, by rw [hl]; exact hj, ?_⟩
      obtain ⟨r3, n3⟩ := mut_ol r2 ((en.go n1).go n2) hs e2 gp2 hp2 (DpAll.set (Dp.ex n2.g q1) j qq2)
      exact nx _ (by simp only [hj]; rfl) G2 _ σ r3 n3
    · exact absurd rfl h2
  · exact absurd rfl h2
/-- [..] * k -/
def repD (s : Sl) (k : PyData) : Rs Sl := match s, k with
  | .ol ds, .int k => if -(2 ^ 63) ≤ k ∧ k < 2 ^ 63 ∧ ds.length * k.toNat ≤ lim then .ok (.ol (List.replicate k.toNat ds).flatten) else .stuck
  | _, _ => .stuck
def fRep (Fa : Env → Rs Sl) (Fb : Env → Rs PyData) : Env → Rs Sl := fun ρ => Fa ρ >>= fun s => Fb ρ >>= fun k => repD s k
theorem DpAll.rep {K : PySem.W.Frag} {H : Hp} {vs : List V} {ds : List PyData} (h : DpAll K H vs ds) : ∀ n : Nat, DpAll K H (List.replicate n vs).flatten (List.replicate n ds).flatten
  | 0 => .nil
  | n + 1 => by
    rw [List.replicate_succ, List.replicate_succ, List.flatten_cons, List.flatten_cons]
    exact DpAll.append h (DpAll.rep h n)
theorem jv_rep {a b : Expr} {ta tb : TE} {Fa : Env → Rs Sl} {Fb : Env → Rs PyData} (ha : JV ca X E a ta Fa) (hb : JB ca X E b tb Fb) : JV ca X E (.BinOp a .Mult b pos) (tOp rRep ta tb) (fRep Fa Fb) := by
  refine ⟨pe_op op_rep ha.pe hb.pe, fun G H ρ σ rep hns Q ok er => ?_⟩
  refine ha.sem.use rep hns er fun s es e1 G1 H1 v n1 r1 q1 h1 er1 => ?_
  refine hb.sem.use r1 h1 er1 fun k ek e2 G2 H2 w n2 r2 q2 h2 er2 => ?_
  unfold repD at h2
  split at h2
  · rename_i ds kk
    split at h2
    · rename_i hc
      obtain ⟨p, xs, rfl, h0, g1, hp, q⟩ := q1
      cases db_int q2
      have hp2 : H2 p = some (.lst xs) := n2.h _ _ hp
      have q' := DpAll.ex n2.g q
      refine ⟨p, kk, xs, rfl, rfl, hp2, hc.1, hc.2.1, lim_le (by rw [DpAll.length q]; exact hc.2.2), fun l hl => ?_⟩
      refine ok (.ol (List.replicate kk.toNat ds).flatten) ?_ G2 _ _ ((n1.trans n2).trans (Nx.hid n2.gh hl)) ⟨l, _, rfl, (n1.trans n2).h.back hl, n2.gh.back hl, upd_same, DpAll.rep q' _⟩
      show (Fa ρ >>= fun s => Fb ρ >>= fun k => repD s k) = _
      rw [e1]
      refine e2.trans (if_pos hc)
    · exact absurd rfl h2
  · exact absurd rfl h2
end
/-! reckoning -/
theorem appD_ok {ds : List PyData} {d : PyData} (h : ds.length < lim) : appD ds [d] = .ok (ds ++ [d]) := if_pos h
@[simp] theorem z_clr (ds : List PyData) : clrD ds [] = .ok [] := rfl
@[simp] theorem z_revs (ds : List PyData) : revsD ds [] = .ok ds.reverse := rfl
@[simp] theorem z_ownL (ds : List PyData) : ownL (some (.ol ds)) = .ok ds := rfl
end PF

namespace PF
open PySem L2

/-! ### zip of a list or a tuple with a list or a tuple -/
def ItrK : Bool → Heap → Addr → Addr → Nat → Prop
  | true, h, it, l, i => h.IsListIter it l i
  | false, h, it, l, i => h.IsTupleIter it l i
def SeqK : Bool → Heap → Addr → Array Value → Prop
  | true, h, l, xs => h.IsList l xs
  | false, h, l, xs => h.IsTuple l xs
def SqK (b : Bool) (K : PySem.W.Frag) (H : Hp) (a : Addr) (xs : List V) : Prop := match b with
  | true => SqL K H a xs
  | false => SqT K H a xs
def itO (b : Bool) (l : Addr) : Obj := { cls := .type (if b then "list_iterator" else "tuple_iterator"), data := .fields #[.ref l, .int 0 0] }
def seqD (b : Bool) (ds : List PyData) : PyData := if b then .list ds else .tuple ds
theorem ItrK.obj {b : Bool} {h : Heap} {it l : Addr} {i : Nat} (x : ItrK b h it l i) : ∃ o, h.get? it = some o ∧ ∀ v, o.data ≠ .cell v := by
  cases b with
  | true => obtain ⟨o, e, _, d⟩ := x; exact ⟨o, e, fun v q => by rw [d] at q; cases q⟩
  | false => obtain ⟨o, e, _, d⟩ := x; exact ⟨o, e, fun v q => by rw [d] at q; cases q⟩
theorem ItrK.mv {b : Bool} {h h' : Heap} {it l : Addr} {i : Nat} (x : ItrK b h it l i) (k : ∀ o, h.get? it = some o → h'.get? it = some o) : ItrK b h' it l i := by
  cases b with
  | true => obtain ⟨o, e, r⟩ := x; exact ⟨o, k o e, r⟩
  | false => obtain ⟨o, e, r⟩ := x; exact ⟨o, k o e, r⟩
theorem SeqK.mv {b : Bool} {h h' : Heap} {l : Addr} {xs : Array Value} (x : SeqK b h l xs) (k : ∀ o, h.get? l = some o → h'.get? l = some o) : SeqK b h' l xs := by
  cases b with
  | true => obtain ⟨o, e, r⟩ := x; exact ⟨o, k o e, r⟩
  | false => obtain ⟨o, e, r⟩ := x; exact ⟨o, k o e, r⟩
theorem SeqK.lt {b : Bool} {h : Heap} {l : Addr} {xs : Array Value} (x : SeqK b h l xs) : l < h.objs.size := by
  cases b with
  | true => obtain ⟨o, e, r⟩ := x; exact Heap.lt_size e
  | false => obtain ⟨o, e, r⟩ := x; exact Heap.lt_size e
theorem drawsK {prog : Program} {w : World} {A : Around} (hh : A.handled = none) (b : Bool) (it l : Addr) (hne : l ≠ it) (items : Array Value) :
    Draws prog w A it [it, l] items.size (fun i v => items[i]? = some v) (fun i h => ItrK b h it l i ∧ SeqK b h l items) := by
  cases b with
  | true => exact Draws.list hh it l hne items
  | false => exact Draws.tuple hh it l hne items
theorem beginsK (b : Bool) (l : Addr) (items : Array Value) : Begins (.ref l) (itO b l) fun h => SeqK b h l items := by
  cases b with
  | true => exact begins_list l items
  | false => exact begins_tuple l items
theorem itrK_new {b : Bool} {h : Heap} {it l : Addr} (e : h.get? it = some (itO b l)) : ItrK b h it l 0 := by
  cases b with
  | true => exact ⟨_, e, rfl, rfl⟩
  | false => exact ⟨_, e, rfl, rfl⟩
section
variable {X : Cx} {pins : List (Addr × Obj)} {σ : L2.St} {H : Hp} {s : Shared} {a : Addr} {xs ys : List V}
theorem inv_seqK {b : Bool} (I : Inv X pins σ H s) (h : SqK b X.K H a xs) : ∃ its : List Value, Vals xs its ∧ SeqK b s.heap a its.toArray := by
  cases b with
  | true =>
    obtain ⟨its, r, p, _⟩ := I.list h
    exact ⟨its, r, p.isList⟩
  | false =>
    obtain ⟨its, r, p, _⟩ := I.tuple h
    exact ⟨its, r, p⟩
theorem inv_injK {b : Bool} (I : Inv X pins σ H s) (h : SqK b X.K H a xs) (h' : SqK b X.K H a ys) : xs = ys := by
  cases b with
  | true => exact I.list_inj h h'
  | false => exact I.tuple_inj h h'
end
theorem SqK.ex {b : Bool} {K : PySem.W.Frag} {H H' : Hp} {a : Addr} {xs : List V} (e : Ex H H') (h : SqK b K H a xs) : SqK b K H' a xs := by
  cases b with
  | true => exact Ex.sql e h
  | false => exact Ex.sqt e h
/-- the walk -/
def ItzK (K : PySem.W.Frag) (b1 b2 : Bool) (a b : Addr) : It :=
  ⟨fun i H => ∃ (xs ys : List V) (x y : V), SqK b1 K H a xs ∧ SqK b2 K H b ys ∧ xs[i]? = some x ∧ ys[i]? = some y,
    fun i H v H' => ∃ T x y, v = .ref T ∧ H T = none ∧ H' = upd H T (.tup [x, y]) ∧ (∀ xs, SqK b1 K H a xs → xs[i]? = some x) ∧ ∀ ys, SqK b2 K H b ys → ys[i]? = some y,
    fun i H => ∃ xs ys : List V, SqK b1 K H a xs ∧ SqK b2 K H b ys ∧ i ≤ xs.length ∧ i ≤ ys.length ∧ (i = xs.length ∨ i = ys.length)⟩
/-- the state of the heap between two turns -/
def zipSt (b1 b2 : Bool) (z TI TO i1 i2 a b : Addr) (i : Nat) (h : Heap) : Prop := IsZip h z TI TO .none ∧ IsTupOf2 h TI (.ref i1) (.ref i2) ∧ (∃ x y, IsTupOf2 h TO x y) ∧ ItrK b1 h i1 a i ∧ ItrK b2 h i2 b i
theorem mem5 {z TI TO i1 i2 c : Addr} (h : c ∈ [z, TI, TO, i1, i2]) : c = z ∨ c = TI ∨ c = TO ∨ c = i1 ∨ c = i2 := by simpa using h
theorem zipSt_obj {b1 b2 : Bool} {z TI TO i1 i2 a b : Addr} {i : Nat} {h : Heap} (st : zipSt b1 b2 z TI TO i1 i2 a b i h) : ∀ c ∈ [z, TI, TO, i1, i2], ∃ o, h.get? c = some o ∧ ∀ v, o.data ≠ .cell v := fun c hc => by
  obtain ⟨q1, q2, ⟨x, y, q3⟩, q4, q5⟩ := st
  rcases mem5 hc with rfl | rfl | rfl | rfl | rfl
  · exact ⟨_, q1, fun v q => nomatch q⟩
  · exact ⟨_, q2, fun v q => nomatch q⟩
  · exact ⟨_, q3, fun v q => nomatch q⟩
  · exact q4.obj
  · exact q5.obj
theorem turnK {P : Program} {w : World} {K : PySem.W.Frag} {elts : List Expr} {kk : Nat} {tpos : Pos} {b1 b2 : Bool} {a b z TI TO i1 i2 : Addr} (S : ZipSep2 z TI TO i1 i2 [i1, a] [i2, b]) (ha : a ≠ i1) (hb : b ≠ i2) :
    Turn P w K (.Tuple elts kk tpos) (ItzK K b1 b2 a b) [z, TI, TO, i1, i2] z (zipSt b1 b2 z TI TO i1 i2 a b) where
  mem := List.mem_cons_self
  obj := fun i h st => zipSt_obj st
  keep := fun i h h' st k => by
    obtain ⟨q1, q2, ⟨x, y, q3⟩, q4, q5⟩ := st
    exact ⟨k z (by simp) _ q1, k TI (by simp) _ q2, ⟨x, y, k TO (by simp) _ q3⟩, q4.mv fun o => k i1 (by simp) o, q5.mv fun o => k i2 (by simp) o⟩
  item := by
    intro X hP hw hK hc i pins s σ H E I hf st hg
    subst hP hw hK
    have there := zipSt_obj st
    obtain ⟨q1, q2, ⟨x0, y0, q3⟩, q4, q5⟩ := st
    obtain ⟨xs, ys, x, y, hqx, hqy, hx, hy⟩ := hg
    obtain ⟨its, rv, p⟩ := inv_seqK I hqx
    obtain ⟨its2, rv2, p2⟩ := inv_seqK I hqy
    obtain ⟨u, hu, ru⟩ := rv.get hx
    obtain ⟨u2, hu2, ru2⟩ := rv2.get hy
    have hh : X.A.in1.handled = none := I.ok.hd hc
    have D1 := drawsK (prog := X.prog) (w := X.w) (A := X.A.in1) hh b1 i1 a ha its.toArray
    have D2 := drawsK (prog := X.prog) (w := X.w) (A := X.A.in1) hh b2 i2 b hb its2.toArray
    refine wpAny_pyNext_zipD2_item S D1 D2 q1 q2 q3 ⟨q4, p⟩ ⟨q5, p2⟩ ?_ ?_ fun v v2 h' tk e1 e2 z1 z3 z4 z5 hT hsz hk => ?_
    · rw [List.size_toArray]; exact (List.getElem?_eq_some_iff.mp hu).1
    · rw [List.size_toArray]; exact (List.getElem?_eq_some_iff.mp hu2).1
    · have ev : v = u := by
        have e1' : its[i]? = some v := by simpa using e1
        rw [hu] at e1'
        exact (Option.some.inj e1').symm
      have ev2 : v2 = u2 := by
        have e2' : its2[i]? = some v2 := by simpa using e2
        rw [hu2] at e2'
        exact (Option.some.inj e2').symm
      subst ev ev2
      have hzl : z < s.heap.objs.size := Heap.lt_size q1
      refine ⟨_, rfl, wpAny_letOwnedTupleGo_zip (s := { s with heap := h', toks := tk }) z1 fun h'' zz sb => ?_⟩
      have mv : ∀ c o, c ≠ z → h'.get? c = some o → h''.get? c = some o := fun c o hc e => (sb.2 c hc).trans e
      have kk2 : ∀ c o, c ∉ [z, TI, TO, i1, i2] → s.heap.get? c = some o → h''.get? c = some o := fun c o hn e => by
        have n1 : c ≠ z := fun q => hn (by simp [q])
        have n2 : c ≠ TO := fun q => hn (by simp [q])
        have n3 : c ≠ i1 := fun q => hn (by simp [q])
        have n4 : c ≠ i2 := fun q => hn (by simp [q])
        exact mv c o n1 (hk c o n1 n2 n3 n4 e)
      have new : ObjOk X.prog X.w (upd H s.heap.objs.size (.tup [x, y])) h'' s.heap.objs.size (.tup [x, y]) :=
        ⟨by show 2 ≤ sizeLine; decide, [v, v2], .cons ru (.cons ru2 .nil), ⟨_, mv _ _ (Nat.ne_of_gt hzl) hT, rfl, _, rfl⟩⟩
      have J : Inv X pins σ (upd H s.heap.objs.size (.tup [x, y])) { s with heap := h'', toks := tk } := I.turnedNew (t' := tk) (ch := [z, TI, TO, i1, i2]) kk2 hf (Nat.le_refl _) new
      have TIi : TI ≠ z ∧ TI ≠ TO ∧ TI ≠ i1 ∧ TI ≠ i2 := ⟨S.TIz, S.TITO, S.TIi1, S.TIi2⟩
      refine ⟨.ref s.heap.objs.size, _, J, rfl, ⟨_, x, y, rfl, I.hok.fresh (Nat.le_refl _), rfl, fun l hl => by rw [inv_injK I hl hqx]; exact hx, fun l hl => by rw [inv_injK I hl hqy]; exact hy⟩,
        ⟨zz, mv TI _ TIi.1 (hk TI _ TIi.1 TIi.2.1 TIi.2.2.1 TIi.2.2.2 q2), ⟨v, v2, mv TO _ S.TOz z3⟩, z4.1.mv fun o => mv i1 o (Ne.symm S.zi1), z5.1.mv fun o => mv i2 o (Ne.symm S.zi2)⟩, fun c hcm => ?_⟩
      obtain ⟨o, eo, _⟩ := there c hcm
      rw [upd_ne (Nat.ne_of_lt (Heap.lt_size eo))]
      exact (hf c hcm).1
  done := by
    intro X hP hw hK hc i pins s σ H E I hf st hg
    subst hP hw hK
    obtain ⟨q1, q2, ⟨x0, y0, q3⟩, q4, q5⟩ := st
    obtain ⟨xs, ys, hqx, hqy, l1, l2, hend⟩ := hg
    obtain ⟨its, rv, p⟩ := inv_seqK I hqx
    obtain ⟨its2, rv2, p2⟩ := inv_seqK I hqy
    have e1 : its.toArray.size = xs.length := by rw [List.size_toArray]; exact rv.length.symm
    have e2 : its2.toArray.size = ys.length := by rw [List.size_toArray]; exact rv2.length.symm
    have hh : X.A.in1.handled = none := I.ok.hd hc
    have D1 := drawsK (prog := X.prog) (w := X.w) (A := X.A.in1) hh b1 i1 a ha its.toArray
    have D2 := drawsK (prog := X.prog) (w := X.w) (A := X.A.in1) hh b2 i2 b hb its2.toArray
    refine wpAny_pyNext_zipD2_end S D1 D2 q1 q2 q3 ⟨q4, p⟩ ⟨q5, p2⟩ (by rw [e1]; exact l1) (by rw [e2]; exact l2) (by rw [e1, e2]; exact hend) fun h' tk hk => ⟨rfl, ?_⟩
    exact I.turnedL (t' := tk) (ch := [z, TI, TO, i1, i2]) (fun c o hn e => hk c o (fun q => hn (by simp [q])) (fun q => hn (by simp [q])) (fun q => hn (by simp [q])) (fun q => hn (by simp [q])) e) hf
  self := fun A i s Q E st h => wpAny_pyIter_zip st.1 h
def iZipK (K : PySem.W.Frag) (ta : TA) : TI := fun σ H R => ta σ H fun vs H1 => ∃ a b xs ys b1 b2, vs = [.ref a, .ref b] ∧ SqK b1 K H1 a xs ∧ SqK b2 K H1 b ys ∧ R (ItzK K b1 b2 a b) H1
theorem pi_zipK {X : Cx} {e e2 : Expr} {ta : TA} {p pos tpos : Pos} {elts : List Expr} {kk : Nat} (hg : Gl X "zip") (hm : X.mg "zip" = none) (ha : PA X [e, e2] ta)
    (hs : starEach [e, e2] X.env = (false, eval e X.env) :: starEach [e2] X.env) (hpl : (backTo pos (starEach [e2] X.env)).any (·.1) = false) :
    PI X (.Tuple elts kk tpos) (.Call (.Name "zip" p) [e, e2] [] pos) (iZipK X.K ta) := by
  refine ⟨fun pins s σ H R I h => ?_⟩
  refine PyProof.Rows.Call_ (ld_blt I hg hm PyProof.Rows.boot_zip (PyProof.Rows.callWith_type1 (thn (ha.run pos pins s σ H _ I h) fun us s1 ⟨vs, H1, I1, r1, q1⟩ => ?_) hs hpl))
  obtain ⟨a, b, xs, ys, b1, b2, rfl, hqx, hqy, q⟩ := q1
  obtain ⟨u1, u2, rfl, ra, rb⟩ := vals2 r1
  cases (show u1 = Value.ref a from ra)
  cases (show u2 = Value.ref b from rb)
  obtain ⟨its, rv, p1⟩ := inv_seqK I1 hqx
  obtain ⟨its2, rv2, p2⟩ := inv_seqK I1 hqy
  have la := p1.lt
  have lb := p2.lt
  refine zip_begins2 (beginsK b1 a its.toArray) (beginsK b2 b its2.toArray) p1 p2 fun h' g1 g2 g3 g4 g5 hsz hk => wpAny_pyIter_zip g1 ?_
  have J : Inv X pins σ H1 { s1 with heap := h' } := I1.kept (t' := s1.toks) hk
  refine ⟨s1.heap.objs.size + 4, [s1.heap.objs.size + 4, s1.heap.objs.size + 2, s1.heap.objs.size + 3, s1.heap.objs.size, s1.heap.objs.size + 1], _, _, H1, rfl, J,
    turnK (zip_sep2 (N := s1.heap.objs.size) (fp1 := [a]) (fp2 := [b]) (fun c hc => by rw [List.mem_singleton.mp hc]; exact la) fun c hc => by rw [List.mem_singleton.mp hc]; exact lb) (Nat.ne_of_lt la) (Nat.ne_of_lt (Nat.lt_succ_of_lt lb)),
    ⟨g1, g2, ⟨_, _, g3⟩, itrK_new g4, itrK_new g5⟩, fun c hc => ?_, q⟩
  have hle : s1.heap.objs.size ≤ c := by
    rcases mem5 hc with rfl | rfl | rfl | rfl | rfl
    · exact Nat.le_add_right _ _
    · exact Nat.le_add_right _ _
    · exact Nat.le_add_right _ _
    · exact Nat.le_refl _
    · exact Nat.le_add_right _ _
  exact I1.fpOk hle (I1.hok.fresh hle)
def seqOf : PyData → Rs (Bool × List PyData)
  | .list ds => .ok (true, ds)
  | .tuple ds => .ok (false, ds)
  | _ => .stuck
/-- zip: lists or tuples -/
def zipM : List PyData → Rs (List PyData)
  | [.list xs, .list ys] => .ok (zipL xs ys)
  | [.tuple xs, .tuple ys] => .ok (zipL xs ys)
  | [.list xs, .tuple ys] => .ok (zipL xs ys)
  | [.tuple xs, .list ys] => .ok (zipL xs ys)
  | _ => .stuck
theorem zipM_ok {ds rs : List PyData} (h : zipM ds = .ok rs) : ∃ b1 b2 xs ys, ds = [seqD b1 xs, seqD b2 ys] ∧ rs = zipL xs ys := by
  unfold zipM at h
  split at h
  · cases h; exact ⟨true, true, _, _, rfl, rfl⟩
  · cases h; exact ⟨false, false, _, _, rfl, rfl⟩
  · cases h; exact ⟨true, false, _, _, rfl, rfl⟩
  · cases h; exact ⟨false, true, _, _, rfl, rfl⟩
  · cases h
theorem seqD_v {b : Bool} {K : PySem.W.Frag} {G : Hp} {v : V} {ds : List PyData} (h : Dp K G v (seqD b ds)) : ∃ a xs, v = .ref a ∧ SqK b K G a xs ∧ DpAll K G xs ds := by
  cases b with
  | true => exact Dp.list_v h
  | false => exact Dp.tuple_v h
section
variable {ca : Nat → Addr} {X : Cx} {E : XK} {e e2 : Expr} {ta : TA} {Fs : Env → Rs (List PyData)} {p pos tpos : Pos} {elts : List Expr} {kk : Nat}
theorem ji_zipM {b : Bool} (ha : JA ca X E [e, e2] ta Fs) (hm : X.mg "zip" = none) (hg : Gl X "zip" := by rfl) (hs : starEach [e, e2] X.env = (false, eval e X.env) :: starEach [e2] X.env := by rfl) (hpl : (backTo pos (starEach [e2] X.env)).any (·.1) = false := by rfl) :
    JI ca X E b (.Tuple elts kk tpos) (.Call (.Name "zip" p) [e, e2] [] pos) (iZipK X.K ta) (fIt zipM Fs) :=
  ⟨pi_zipK hg hm ha.pa hs hpl, fun G H ρ σ rep hns R ok er => ha.sem.use rep hns er fun d ed e1 G' H' v n r q hk _ => by
    have q : DpAll X.K G' v d := q
    cases h2 : zipM d with
    | stuck => exact absurd h2 hk
    | err x => unfold zipM at h2; split at h2 <;> cases h2
    | ok rs =>
      obtain ⟨b1, b2, xs, ys, rfl, rfl⟩ := zipM_ok h2
      have hlen : (zipL xs ys).length = min xs.length ys.length := by unfold zipL; exact List.length_zipWith
      match v, q with
      | _, .cons w1 (.cons w2 .nil) =>
        obtain ⟨a, vs, rfl, ha1, aa⟩ := seqD_v w1
        obtain ⟨c, ws, rfl, hb1, ab⟩ := seqD_v w2
        have la := DpAll.length aa
        have lb := DpAll.length ab
        refine ⟨a, c, vs, ws, b1, b2, rfl, ha1.ex n.gh, hb1.ex n.gh, ok _ (e1.trans h2) G' H' _ n ⟨fun H => SqK b1 X.K H a vs ∧ SqK b2 X.K H c ws, fun G2 H2 z1 z2 _ => ⟨(ha1.ex z1).ex z2, (hb1.ex z1).ex z2⟩, fun i H hi g => ?_, fun H g => ?_, fun i G2 H2 x H3 d hd g z1 z2 hy => ?_⟩⟩
        · rw [hlen] at hi
          have l1 : i < vs.length := by omega
          have l2 : i < ws.length := by omega
          exact ⟨vs, ws, vs[i], ws[i], g.1, g.2, List.getElem?_eq_getElem l1, List.getElem?_eq_getElem l2⟩
        · exact ⟨vs, ws, g.1, g.2, by rw [hlen]; omega, by rw [hlen]; omega, by rw [hlen]; omega⟩
        · obtain ⟨c1, c2, f1, f2, rfl⟩ := zipL_get hd
          obtain ⟨T, x1, y1, rfl, hT, e3, e4, e5⟩ := hy
          obtain ⟨d1, k1, k2⟩ := DpAll.get aa (e4 vs g.1)
          obtain ⟨d2, k3, k4⟩ := DpAll.get ab (e5 ws g.2)
          rw [f1] at k1
          rw [f2] at k3
          cases k1
          cases k3
          exact pair_new z2 hT e3 (Dp.ex z1 k2) (Dp.ex z1 k4)⟩
end
@[simp] theorem z_zipLL (xs ys : List PyData) : zipM [.list xs, .list ys] = .ok (zipL xs ys) := rfl
@[simp] theorem z_zipTT (xs ys : List PyData) : zipM [.tuple xs, .tuple ys] = .ok (zipL xs ys) := rfl
@[simp] theorem z_zipLT (xs ys : List PyData) : zipM [.list xs, .tuple ys] = .ok (zipL xs ys) := rfl
@[simp] theorem z_zipTL (xs ys : List PyData) : zipM [.tuple xs, .list ys] = .ok (zipL xs ys) := rfl
end PF
namespace PF
open PySem L2
/-! ### a list of our own is lent: what comes back holds no list -/
mutual
def lfree : PyData → Bool
  | .list _ => false
  | .dict _ => false
  | .tuple ds => lfreeAll ds
  | _ => true
def lfreeAll : List PyData → Bool
  | [] => true
  | d :: ds => lfree d && lfreeAll ds
end
def rmH (G : Hp) (p : Addr) : Hp := fun b => if b = p then none else G b
theorem rmH_ne {G : Hp} {p b : Addr} (h : b ≠ p) : rmH G p b = G b := if_neg h
theorem rmH_some {G : Hp} {p b : Addr} {o : HO} (h : rmH G p b = some o) : G b = some o ∧ b ≠ p := by
  unfold rmH at h
  split at h
  · cases h
  · exact ⟨h, by assumption⟩
theorem sqt_rm {K : PySem.W.Frag} {G : Hp} {p a : Addr} {xs zs : List V} (hp : G p = some (.lst zs)) (h : SqT K G a xs) : SqT K (rmH G p) a xs := by
  rcases h with h | h
  · have hne : a ≠ p := fun z => by
      subst z
      rcases h with h | ⟨o, h⟩
      · rw [hp] at h; cases h
      · rw [hp] at h; cases h
    rcases h with h | ⟨o, h⟩
    · exact .inl (.inl (by rw [rmH_ne hne]; exact h))
    · exact .inl (.inr ⟨o, by rw [rmH_ne hne]; exact h⟩)
  · exact .inr h
theorem tup_rm {G : Hp} {p a : Addr} {xs zs : List V} (hp : G p = some (.lst zs)) (h : G a = some (.tup xs)) : rmH G p a = some (.tup xs) := by
  rw [rmH_ne (fun z => by subst z; rw [hp] at h; cases h)]
  exact h
mutual
theorem dp_rm {K : PySem.W.Frag} {G : Hp} {p : Addr} {zs : List V} (hp : G p = some (.lst zs)) : ∀ {v : V} {d : PyData}, lfree d = true → Dp K G v d → Dp K (rmH G p) v d
  | _, _, _, .non => .non
  | _, _, _, .bl b => .bl b
  | _, _, _, .int i => .int i
  | _, _, _, .str x => .str x
  | _, _, hl, .lst h a => by simp [lfree] at hl
  | _, _, hl, .tup h a => .tup (tup_rm hp h) (dps_rm hp (by simpa [lfree] using hl) a)
theorem dps_rm {K : PySem.W.Frag} {G : Hp} {p : Addr} {zs : List V} (hp : G p = some (.lst zs)) : ∀ {vs : List V} {ds : List PyData}, lfreeAll ds = true → DpAll K G vs ds → DpAll K (rmH G p) vs ds
  | _, _, _, .nil => .nil
  | _, _, hl, .cons h a => by
    simp only [lfreeAll, Bool.and_eq_true] at hl
    exact .cons (dp_rm hp hl.1 h) (dps_rm hp hl.2 a)
end
def slFree : Sl → Bool
  | .sh d => lfree d
  | .ol ds => lfreeAll ds
  | _ => false
def lendCk (s : Sl) : Rs Sl := if slFree s = true then .ok s else .stuck
def fLend (i : Nat) (F : Env → Rs Sl) : Env → Rs Sl := fun ρ => match ρ[i]? with
  | some (.ol _) => F (fz1 i ρ) >>= lendCk
  | _ => F ρ
theorem fz_rep0 {c : Pc} {G H : Hp} {ρ : Env} {σ : L2.St} {i : Nat} {ds : List PyData} {p : Addr} {xs : List V} (rep : Rep c G H ρ σ) (hs : ρ[i]? = some (.ol ds)) (e1 : σ[i]? = some (some (.ref p))) (gp : G p = none) (hp : H p = some (.lst xs)) (q : DpAll c.K G xs ds) : Rep c (upd G p (.lst xs)) H (fz1 i ρ) σ := by
  have ef : fz1 i ρ = ρ.set i (.sh (.list ds)) := by unfold fz1; rw [hs]; rfl
  rw [ef]
  have x : Ex G (upd G p (.lst xs)) := Ex.new gp
  have gh : Ex (upd G p (.lst xs)) H := fun a u e => by
    by_cases ha : a = p
    · rw [ha, upd_same] at e
      cases e
      rw [ha]
      exact hp
    · rw [upd_ne ha] at e
      exact rep.gh a u e
  refine ⟨gh, by rw [List.length_set, rep.len], fun j u e => ?_, fun j k u u' r a1 a2 w1 w2 f1 f2 => ?_⟩
  · rw [List.getElem?_set] at e
    by_cases hij : i = j
    · rw [if_pos hij] at e
      split at e
      · cases e
        rw [← hij]
        exact ⟨_, e1, _, rfl, .lst (.inl (.inl upd_same)) (DpAll.ex x q)⟩
      · cases e
    · rw [if_neg hij] at e
      obtain ⟨o, e2, q2⟩ := rep.sl j u e
      refine ⟨o, e2, ?_⟩
      have ne : ∀ b, o = some (.ref b) → u.own = true → b ≠ p := fun b eb hu z => by
        subst z
        rw [eb] at e2
        exact hij (rep.inj i j _ u b hs e rfl hu e1 e2)
      cases u with
      | no => trivial
      | sh d => obtain ⟨v, z1, z2⟩ := q2; exact ⟨v, z1, Dp.ex x z2⟩
      | ol es => obtain ⟨b, ys, z1, g1, z2, z3⟩ := q2; exact ⟨b, ys, z1, by rw [upd_ne (ne b z1 rfl)]; exact g1, z2, DpAll.ex x z3⟩
      | od es => obtain ⟨b, ys, z1, g1, z2, z3⟩ := q2; exact ⟨b, ys, z1, by rw [upd_ne (ne b z1 rfl)]; exact g1, z2, KvOk.ex x z3⟩
      | exn y => obtain ⟨v, z1, z2⟩ := q2; exact ⟨v, z1, z2.ex x⟩
      | hal m es => obtain ⟨b, dx, t, z1, g1, z2, z3⟩ := q2; exact ⟨b, dx, t, z1, by rw [upd_ne (fun w => by rw [w, hp] at z2; cases z2)]; exact g1, z2, Dp.ex x z3⟩
  · have old : ∀ (m : Nat) t, (ρ.set i (.sh (.list ds)))[m]? = some t → t.own = true → ρ[m]? = some t := fun m t e ht => by
      rw [List.getElem?_set] at e
      by_cases him : i = m
      · rw [if_pos him] at e
        split at e <;> cases e
        cases ht
      · rw [if_neg him] at e
        exact e
    exact rep.inj j k u u' r (old j u a1 w1) (old k u' a2 w2) w1 w2 f1 f2
theorem sem_lend {c : Pc} {E : XK} {t : TE} {F : Env → Rs Sl} (i : Nat) (h : SemG c E t F (RV c)) : SemG c E t (fLend i F) (RV c) := by
  intro G H ρ σ rep hns Q ok er
  cases hs : ρ[i]? with
  | none =>
    have e : fLend i F ρ = F ρ := by unfold fLend; rw [hs]
    rw [e] at hns er
    exact h G H ρ σ rep hns Q (fun a ea => ok a (e.trans ea)) er
  | some s =>
    cases s with
    | ol ds =>
      have e : fLend i F ρ = (F (fz1 i ρ) >>= lendCk) := by unfold fLend; rw [hs]
      rw [e] at hns er
      obtain ⟨o, e1, p, xs, rfl, gp, hp, q⟩ := rep.sl i _ hs
      have rep1 := fz_rep0 rep hs e1 gp hp q
      have back : ∀ G' H', Nx (upd G p (.lst xs)) H G' H' → G' p = some (.lst xs) ∧ Nx G H (rmH G' p) H' := fun G' H' n => by
        have gp' : G' p = some (.lst xs) := n.g p _ upd_same
        refine ⟨gp', fun a u ea => ?_, n.h, fun a u ea => n.gh a u (rmH_some ea).1, fun a ha ga => ?_⟩
        · have hne : a ≠ p := ne_of_none ea gp
          rw [rmH_ne hne]
          exact n.g a u (by rw [upd_ne hne]; exact ea)
        · by_cases hap : a = p
          · exact .inl (by unfold rmH; rw [if_pos hap])
          · rw [rmH_ne hap]
            exact n.fr a ha (by rw [upd_ne hap]; exact ga)
      refine h (upd G p (.lst xs)) H _ σ rep1 (fun z => hns (by rw [z]; rfl)) Q (fun s es G' H' v n r => ?_) fun x ex G' H' cl dd n xr => ?_
      · obtain ⟨gp', n'⟩ := back G' H' n
        have hf : slFree s = true := by
          by_cases hf : slFree s = true
          · exact hf
          · exfalso
            apply hns
            rw [es]
            exact if_neg hf
        refine ok s (e.trans (by rw [es]; exact if_pos hf)) (rmH G' p) H' v n' ?_
        cases s with
        | sh d => exact dp_rm gp' hf r
        | ol es' =>
          obtain ⟨p2, ys, rfl, h0, g1, h1, r⟩ := r
          have hne : p2 ≠ p := fun z => by rw [z, hp] at h0; cases h0
          exact ⟨p2, ys, rfl, h0, by rw [rmH_ne hne]; exact g1, h1, dps_rm gp' hf r⟩
        | no => cases hf
        | od kvs => cases hf
        | exn x => cases hf
        | hal _ _ => cases hf
      · obtain ⟨gp', n'⟩ := back G' H' n
        refine er x (by rw [ex]; rfl) (rmH G' p) H' cl dd n' ?_
        obtain ⟨x1, x2⟩ := xr
        refine ⟨x1, ?_⟩
        cases hpl : x.place with
        | none => rw [hpl] at x2; exact x2
        | some pl =>
          rw [hpl] at x2
          obtain ⟨d, y1, y2⟩ := x2
          have hne : d ≠ p := fun z => by rw [z, gp'] at y2; cases y2
          exact ⟨d, y1, by rw [rmH_ne hne]; exact y2⟩
    | no =>
      have e : fLend i F ρ = F ρ := by unfold fLend; rw [hs]
      rw [e] at hns er
      exact h G H ρ σ rep hns Q (fun a ea => ok a (e.trans ea)) er
    | sh d =>
      have e : fLend i F ρ = F ρ := by unfold fLend; rw [hs]
      rw [e] at hns er
      exact h G H ρ σ rep hns Q (fun a ea => ok a (e.trans ea)) er
    | od d =>
      have e : fLend i F ρ = F ρ := by unfold fLend; rw [hs]
      rw [e] at hns er
      exact h G H ρ σ rep hns Q (fun a ea => ok a (e.trans ea)) er
    | exn d =>
      have e : fLend i F ρ = F ρ := by unfold fLend; rw [hs]
      rw [e] at hns er
      exact h G H ρ σ rep hns Q (fun a ea => ok a (e.trans ea)) er
    | hal _ _ =>
      have e : fLend i F ρ = F ρ := by unfold fLend; rw [hs]
      rw [e] at hns er
      exact h G H ρ σ rep hns Q (fun a ea => ok a (e.trans ea)) er
theorem jv_lend {ca : Nat → Addr} {X : Cx} {E : XK} {e : Expr} {t : TE} {F : Env → Rs Sl} (i : Nat) (h : JV ca X E e t F) : JV ca X E e t (fLend i F) := ⟨h.pe, sem_lend i h.sem⟩
end PF

namespace PF
/-! the error classes that the linked program has -/
abbrev eOk (i : Nat) : Prop := i < 6
end PF

namespace PF
open PySem L2

/-! ### own errors -/
/-- what the written part tells of one error class -/
structure Ecl (K : PySem.W.Frag) (mg : Str → Option Value) (x : Str) (C : Addr) : Prop where
  g : mg x = some (.ref C)
  k : PySem.W.keepIn K (.ref C) = true
  b : PySem.W.subIn K (.ref C) (.type "BaseException") = some true
  t : PySem.W.typeIn K (.ref C) = some (.type "type")
  i : PySem.W.isClsIn K C = true
  ga : PySem.W.findIn K (.ref C) "__getattribute__" = some (some (.builtin "BaseException.__getattribute__"))
  gg : PySem.W.findIn K (.ref C) "__getattr__" = some none
  ha : PySem.W.findIn K (.ref C) "__class__" = some (some (.builtin "object.__class__"))
  hd : PySem.W.hasDictIn K C = true
  hm : PySem.W.mroIn K C (.type "object") = some true
  sv : PySem.W.subIn K (.ref C) (.type "ValueError") = some true
  sn : PySem.W.subIn K (.type "NoneType") (.ref C) = some false
def eNm : Nat → Str
  | 0 => "WallError"
  | 1 => "NoNumber"
  | 2 => "NoLand"
  | 3 => "NoPlace"
  | 4 => "NoFace"
  | _ => "NoWall"
/-- is an error of class i one of class j -/
def eSub (i j : Nat) : Bool := i == j || j == 0
/-- all of them -/
structure EX (K : PySem.W.Frag) (mg : Str → Option Value) (ca : Nat → Addr) : Prop where
  cl : ∀ i, eOk i → Ecl K mg (eNm i) (ca i)
  sb : ∀ i j, eOk i → eOk j → PySem.W.subIn K (.ref (ca i)) (.ref (ca j)) = some (eSub i j)
  hn : PySem.W.specialIn K (.builtin "object.__class__") "__get__" = some (some (.builtin "getset_descriptor.__get__"))
  ht : PySem.W.takesIn K (.builtin "object.__class__") = some true
  x : ∀ i, eOk i → i < 5 → PySem.W.excIn K (ca i) [.type "ValueError", .type "Exception", .type "BaseException", .type "object"] "ValueError.__new__" = true
section
variable {K : PySem.W.Frag} {mg : Str → Option Value} {ca : Nat → Addr}
theorem EX.exm (T : EX K mg ca) {i : Nat} (hi : eOk i) : PySem.W.exmOne K (.ref (ca i)) (.ref (ca 0)) = some true := by
  have c := T.cl 0 (by decide)
  have e1 : (PySem.W.subIn K (.ref (ca 0)) (.type "BaseException") == some true) = true := by rw [c.b] <;> rfl
  have e2 : ((PySem.W.clsIn K (ca 0)).isSome && PySem.W.typeIn K (.ref (ca 0)) == some (.type "type")) = true := by
    have h2 : (PySem.W.clsIn K (ca 0)).isSome = true := c.i
    rw [h2, c.t] <;> rfl
  have e3 := T.sb i 0 hi (by decide)
  show (if (PySem.W.subIn K (.ref (ca 0)) (.type "BaseException") == some true) = true then (if ((PySem.W.clsIn K (ca 0)).isSome && PySem.W.typeIn K (.ref (ca 0)) == some (.type "type")) = true then PySem.W.subIn K (.ref (ca i)) (.ref (ca 0)) else none) else none) = some true
  rw [if_pos e1, if_pos e2, e3]
  unfold eSub
  simp
theorem kitOne_of {t c : Value} {b : Bool} (h : PySem.W.kitCls K t c = some b) (hb : t = c → b = true) : PySem.W.kitOne K t c = some b := by
  unfold PySem.W.kitOne
  by_cases e : (t == c) = true
  · rw [if_pos e, hb (eq_of_beq e)]
  · rw [if_neg e, h]
theorem kitCls_ref {t : Value} {C : Addr} {b : Bool} (h1 : PySem.W.isClsIn K C = true) (h2 : PySem.W.typeIn K (.ref C) = some (.type "type")) (h : PySem.W.subIn K t (.ref C) = some b) : PySem.W.kitCls K t (.ref C) = some b := by
  have e2 : ((PySem.W.clsIn K C).isSome && PySem.W.typeIn K (.ref C) == some (.type "type")) = true := by
    have h1' : (PySem.W.clsIn K C).isSome = true := h1
    rw [h1', h2] <;> rfl
  show (if ((PySem.W.clsIn K C).isSome && PySem.W.typeIn K (.ref C) == some (.type "type")) = true then PySem.W.subIn K t (.ref C) else none) = some b
  rw [if_pos e2, h]
theorem EX.kit (T : EX K mg ca) {i j : Nat} (hi : eOk i) (hj : eOk j) : PySem.W.kitOne K (.ref (ca i)) (.ref (ca j)) = some (eSub i j) := by
  have c := T.cl j hj
  refine kitOne_of (kitCls_ref c.i c.t (T.sb i j hi hj)) fun e => ?_
  have e' : ca i = ca j := Value.ref.inj e
  have z1 := T.sb i j hi hj
  have z2 := T.sb j j hj hj
  rw [e', z2] at z1
  have z3 := Option.some.inj z1
  rw [← z3]
  unfold eSub
  simp
theorem EX.kitN (T : EX K mg ca) {j : Nat} (hj : eOk j) : PySem.W.kitOne K (.type "NoneType") (.ref (ca j)) = some false :=
  have c := T.cl j hj
  kitOne_of (kitCls_ref c.i c.t c.sn) fun e => nomatch e
theorem EX.kitV (T : EX K mg ca) {i : Nat} (hi : eOk i) : PySem.W.kitOne K (.ref (ca i)) (.type "ValueError") = some true := by
  have c := T.cl i hi
  refine kitOne_of ?_ fun e => nomatch e
  show (if PySem.W.kitMeta "ValueError" = true then PySem.W.subIn K (.ref (ca i)) (.type "ValueError") else none) = some true
  rw [if_pos (by decide +kernel), c.sv]
theorem kitNV : PySem.W.kitOne K (.type "NoneType") (.type "ValueError") = some false := kit_ty (by decide +kernel)
end

/-! ### a held error is laid -/
theorem excO_ok {P : Program} {w : World} {H : Hp} {h : Heap} {C a : Addr} {d : Option Addr} {oe : Obj} {vs : Array Value} (e : h.get? a = some oe) (z : Zc (.ref C) d oe) (hd : oe.data = .fields vs) : ObjOk P w H h a (excO C d a) :=
  ⟨⟨oe, vs, e, z.1, z.2, hd⟩, ⟨oe, e⟩, fun _ _ ⟨o, v, q, r⟩ k => ⟨o, v, k o q, r⟩⟩
section
variable {X : Cx} {pins : List (Addr × Obj)} {σ : St} {H : Hp} {s : Shared}
theorem inv_lay {a : Addr} {oe : Obj} {o : HO} (I : Inv X pins σ H s) (n0 : X.s_0.heap.get? a = none) (hn : H a = none) (e : s.heap.get? a = some oe) (nL : a ≠ X.env.locals) (nC : ∀ v, oe.data ≠ .cell v) (np : ∀ p ∈ X.pn ++ pins, p.1 ≠ a)
    (new : ObjOk X.prog X.w (upd H a o) s.heap a o) : Inv X pins σ (upd H a o) s := by
  refine ⟨I.ok, I.os, I.bare, ⟨I.base.keep, I.base.slot, fun b u e1 n hx => ?_, I.base.there, fun b xs q => ?_, fun b u xs q => ?_, fun b ps q => ?_⟩, I.loc, I.cell, ?_, fun x c ec => ?_, fun p hp => ?_, I.hok.laidN (fun _ _ z => z) hn new, I.len⟩
  · rw [upd_ne (fun z => by rw [z, n0] at e1; cases e1)]
    exact I.base.free b u e1 n hx
  · have z := I.base.tups b xs q
    rw [upd_ne (ne_of_none z hn)]
    exact z
  · have z := I.base.frzs b u xs q
    rw [upd_ne (ne_of_none z hn)]
    exact z
  · obtain ⟨m, z⟩ := I.base.tbls b ps q
    exact ⟨m, by rw [upd_ne (ne_of_none z hn)]; exact z⟩
  · rw [upd_ne (Ne.symm nL)]
    exact I.free
  · obtain ⟨v, o', ho, hd⟩ := I.cell x c ec
    rw [upd_ne (fun z => by rw [z, e] at ho; cases ho; exact nC v hd)]
    exact I.freeC x c ec
  · obtain ⟨q1, q2, q3⟩ := I.pin p hp
    exact ⟨q1, by rw [upd_ne (np p hp)]; exact q2, q3⟩
theorem inv_suite0 {a : Addr} (I : Inv X pins σ H s) : Inv (X.suite a (X.pn ++ pins)) [] σ H s :=
  ⟨I.ok.suite _ _, I.os, I.bare, I.base, I.loc, I.cell, I.free, I.freeC, fun p hp => I.pin p (by rw [List.append_nil] at hp; exact hp), I.hok, I.len⟩
theorem inv_unsuite0 {a : Addr} {pn' : List (Addr × Obj)} (I : Inv (X.suite a (X.pn ++ pins)) pn' σ H s) (ok : X.Ok) : Inv X pins σ H s :=
  ⟨ok, I.os, I.bare, I.base, I.loc, I.cell, I.free, I.freeC, fun p hp => I.pin p (List.mem_append_left _ hp), I.hok, I.len⟩
end
/-- what the clause 'except x as n' wishes, where the error is kept: slot i is n's -/
def wKeep (K : PySem.W.Frag) (c : Value) (i : Nat) (ts : TS) (D : Ends) : WX := fun cls d σ H =>
  PySem.W.exmOne K cls c = some true ∧ ∃ C, cls = .ref C ∧ ∀ a, H a = none → ts { nx := fun σ' H' => D.nx (σ'.set i none) H', rt := D.rt, bk := fun σ' H' => D.bk (σ'.set i none) H', ct := fun σ' H' => D.ct (σ'.set i none) H' } (σ.set i (some (.ref a))) (upd H a (excO C d a))
section
variable {X : Cx} {x n : Str} {c : Value} {i : Nat} {body suite : List Stmt} {b₀ : Stmt} {np pos pos' : Pos} {tb : WX → TS} {ts : TS}
theorem ps_try_keep (hex : X.ex = []) (hs : X.stack = X.env :: X.outer) (hf : X.env.frame = some X.env.locals) (hN : X.N.Nodup) (hi : X.N[i]? = some n) (hln : X.env.kindOf n = some .local) (hc : Names X x c)
    (hb : ∀ (W : WX) (pn : List (Addr × Obj)) (xe : Value → Shared → Prop), Takes (X.tr pn xe) W → PassesOwn (model X.prog X.w) X.A X.env xe → PSs (X.tr pn xe) body (tb W))
    (hsu : ∀ (a : Addr) (pn : List (Addr × Obj)), PSs (X.suite a pn) (b₀ :: suite) ts) :
    PS X (.Try body [.ExceptHandler (some (.Name x np)) (some n) (b₀ :: suite) pos'] [] [] pos) (fun D σ H => tb (wKeep X.K c i ts D) D σ H) := by
  refine ⟨fun pins s σ H D I h => ?_⟩
  have ok := I.ok
  have hfr : X.A.frames = some (X.env :: X.outer) := by rw [ok.frames, hs]
  have hloc : Loc X.env.scope n := .inl hln
  refine wpAny_Try_except ?_
  refine wpAny_mono ((hb (wKeep X.K c i ts D) (X.pn ++ pins) (fun e s₁ => wpAny (model X.prog X.w) X.A (noteFrame e X.env) (fun _ s₂ => wpAny (model X.prog X.w) X.A (setFlight e none) (fun _ s₃ =>
    wpAny (model X.prog X.w) X.A (handleBy e X.env [.ExceptHandler (some (.Name x np)) (some n) (b₀ :: suite) pos']) (SP X pins D) X.xe s₃) X.xe s₂) X.xe s₁) (fun u s' xx => ?_) PassesOwn.looking).run [] s σ H D (I.toTry _) h) (fun f s1 hsp => ?_) (fun e s1 he => he)
  · obtain ⟨a, B, sI, pins', σ', H', cls, d, rfl, J', nb, up, sky, na, os, ag, hb1, C, rfl, hyes⟩ := xx
    have J : Inv X pins σ' H' sI := J'.ofTry ok
    have sky' : Sky B (X.env :: X.outer) a (Zc (.ref C) d) X.env.locals s'.heap := by rw [← hs]; exact sky
    show wpAny (model X.prog X.w) X.A (noteFrame (.ref a) X.env) _ _ _
    refine Sky.land Zc.steady hfr hf sky' fun h3 fl3 up3 => ?_
    have J3 : Inv X pins σ' H' { s' with heap := h3 } := J.landed nb fl3.1 (up.trans up3) os ag
    obtain ⟨oe3, vs3, he3, hz3, hd3⟩ := fl3.there
    have notFr : ∀ {h : Heap} {o : Obj} {vs : Array Value}, h.FunFrames B (X.env :: X.outer) → h.get? a = some o → o.data = .fields vs → a ∉ frs (X.env :: X.outer) := fun {h o vs} ff e dd hm => by
      obtain ⟨_, o', e', hnf⟩ := ff.mem hm
      rw [e] at e'; cases e'
      exact hnf _ dd
    have nfr := notFr fl3.2.2.1 he3 hd3
    have nL : a ≠ X.env.locals := fun z => nfr (List.mem_filterMap.mpr ⟨X.env, List.mem_cons_self, by rw [hf, z]⟩)
    have nI : sI.heap.get? a = none := by
      cases e : sI.heap.get? a with
      | none => rfl
      | some o =>
        have z := nb a o e (by rw [hs]; exact nfr)
        have z2 : B.get? a = none := fl3.2.1
        rw [z] at z2
        cases z2
    have n0 : X.s_0.heap.get? a = none := by
      cases e : X.s_0.heap.get? a with
      | none => rfl
      | some o =>
        obtain ⟨o', z⟩ := J.base.there a o e (by rw [hex]; exact fun z => nomatch z)
        rw [nI] at z
        cases z
    have npin : ∀ p ∈ X.pn ++ pins, p.1 ≠ a := fun p hp z => by
      have q := (J.pin p hp).1
      rw [z, nI] at q
      cases q
    have S3 : Inv (X.suite a (X.pn ++ pins)) [] σ' H' { s' with heap := h3 } := inv_suite0 J3
    refine wpAny_handleBy_cons (codeAny_handlers_test ?_) (by intro q; cases q)
    have LT : PySem.W.Looks (model X.prog X.w) h3 (typeOf (.ref a)) (.ref C) := fun A Q E s k q => wpAny_typeOf_ref (k _ _ he3) (by rw [hz3.1]; exact q)
    have LM := PySem.W.exm_one (M := model X.prog X.w) (J3.kIn) LT hb1
    have test : ∀ {Q : Value → Shared → Prop} {E : Value → Shared → Prop}, Q c { s' with heap := h3 } → wpAny (model X.prog X.w) (X.A.mark (some (.ref a))) (eval (.Name x np) X.env) Q E { s' with heap := h3 } := fun {Q E} q => by
      obtain ⟨hg, hdbg, hm | ⟨hm, hv, hnn⟩⟩ := hc
      · exact ld_glob (X := X.suite a (X.pn ++ pins)) S3 hg hm q hdbg
      · exact ld_blt (X := X.suite a (X.pn ++ pins)) S3 hg hm hv q hnn hdbg
    refine test (LM.here ?_)
    refine codeAny_handlers_suite_as ?_
    refine HandSPX.lands_againZ fl3 fun h4 fl4 up4 => ?_
    have J4 : Inv X pins σ' H' { s' with heap := h4 } := J.landed nb fl4.1 ((up.trans up3).trans up4) os ag
    obtain ⟨oe4, vs4, he4, hz4, hd4⟩ := fl4.there
    have J5 : Inv X pins σ' (upd H' a (excO C d a)) { s' with heap := h4 } := inv_lay J4 n0 na he4 nL (fun v z => by rw [hd4] at z; cases z) npin (excO_ok he4 hz4 hd4)
    have S4 : Inv (X.suite a (X.pn ++ pins)) [] σ' (upd H' a (excO C d a)) { s' with heap := h4 } := inv_suite0 J5
    refine store_ok (X := X.suite a (X.pn ++ pins)) (v := .ref a) S4 hN hi hloc rfl (fun s5 S5 => ?_) (.inr hln)
    refine wpAny_mono ((hsu a (X.pn ++ pins)).run [] s5 _ _ _ S5 (hyes a na)) (fun f s6 hsp => ?_) (fun _ _ z => False.elim z)
    have end_ : ∀ {σ6 : St} {H6 : Hp} {Q : Shared → Prop}, Inv (X.suite a (X.pn ++ pins)) [] σ6 H6 s6 → (∀ s7, Inv X pins (σ6.set i none) H6 s7 → Q s7) →
        wpAny (model X.prog X.w) X.A (do bindName X.env n .none; unbindBehindTheSuite X.env n pos') (fun _ s7 => Q s7) X.xe s6 := fun {σ6 H6 Q} S6 hq => gone_ok (inv_unsuite0 S6 ok) hN hi hln hq
    cases f with
    | next =>
      obtain ⟨σ6, H6, S6, q6⟩ := hsp
      exact end_ S6 fun s7 J7 => ⟨_, _, J7, q6⟩
    | brk =>
      obtain ⟨σ6, H6, S6, q6⟩ := hsp
      exact end_ S6 fun s7 J7 => ⟨_, _, J7, q6⟩
    | cont =>
      obtain ⟨σ6, H6, S6, q6⟩ := hsp
      exact end_ S6 fun s7 J7 => ⟨_, _, J7, q6⟩
    | ret u =>
      obtain ⟨v6, σ6, H6, S6, r6, q6⟩ := hsp
      exact end_ S6 fun s7 J7 => ⟨_, _, _, J7, r6, q6⟩
  · cases f with
    | next =>
      obtain ⟨σ', H', J', q⟩ := hsp
      exact wpAny_execs_nil ⟨σ', H', J'.ofTry ok, q⟩
    | brk =>
      obtain ⟨σ', H', J', q⟩ := hsp
      exact ⟨σ', H', J'.ofTry ok, q⟩
    | cont =>
      obtain ⟨σ', H', J', q⟩ := hsp
      exact ⟨σ', H', J'.ofTry ok, q⟩
    | ret u =>
      obtain ⟨v, σ', H', J', r, q⟩ := hsp
      exact ⟨v, σ', H', J'.ofTry ok, r, q⟩
end
end PF

namespace PF
open PySem L2

/-! ### raise -/
section
variable {ca : Nat → Addr} {X : Cx} {E : XK}
theorem jp_raiseT (i : Nat) {x m : Str} {j : Nat} {p p2 pos pos2 : Pos} (T : EX X.K X.mg ca) (hc : X.calm = true) (tk : Takes X (fun cls d _ H => E cls d H)) (hg : Gl X x := by rfl) (hi : i < 5 := by decide) (hok : eOk i := by decide) (hx : eNm i = x := by rfl) (hdb : (x == ("__debug__" : Str)) = false := by decide) :
    JP ca X E (.Raise (some (.Call (.Name x p) [.Constant (.str m) j p2] [] pos)) none pos2) (fun _ σ H => E (.ref (ca i)) none H) (fun _ => .err ⟨i, none⟩) := by
  have c := T.cl i hok
  rw [hx] at c
  refine ⟨ps_raise hc tk (pmk_own PySem.F.excBase_ValueError (T.x i hok hi) c.g c.k (raises_own c.b c.t) hg hdb), fun G0 H0 G H ρ σ rep en hns D nx rt er => ?_⟩
  exact er ⟨i, none⟩ rfl G H _ _ en.nx ⟨rfl, rfl⟩
/-- NoWall's own __init__ -/
def spIni (C : Addr) : Sp := fun vs H Q _ => ∃ (a : Addr) (i : Int), vs = [.ref a, .int i] ∧ H a = some (exo a C none) ∧ ∀ dx, H dx = none → dx ≠ a → Q .non (upd (upd H dx (exd dx [(("place" : Str), .int i)])) a (exo a C (some dx)))
structure NW (P : Program) (w : World) (K : PySem.W.Frag) (mg : Str → Option Value) (base : Heap) (ca : Nat → Addr) : Prop where
  T : OexC K (ca 5)
  fn : ∃ (fI : Addr) (fd : FuncData), PySem.W.findIn K (.ref (ca 5)) "__init__" = some (some (.ref fI)) ∧ PySem.W.typeIn K (.ref fI) = some (.type "function") ∧ FnOk P w K mg base (L2.CX P w) 1 fI fd ["self", "place"] (spIni (ca 5)) ∧ Binds K fd ["self", "place"] []
theorem ok_ini {P : Program} {w : World} {K : PySem.W.Frag} {mg : Str → Option Value} {base : Heap} {C : Addr} {st : Stmt} {f : Addr} {fd : FuncData} {p1 p2 p3 p4 : Pos} (F : Fun K "__init__" "NoWall.__init__" st f fd) (S : FnScope ["self", "place"] ["self", "place"] (defScope st))
    (hb : defBody st = [.Assign [.Attribute (.Name "self" p1) "place" p2] (.Name "place" p3) p4]) (T : OexC K C) (no : PySem.W.findIn K (.ref C) "place" = some none)
    (ho : ∀ (cdv : Value) (A : Around) (outer : List PySem.Env) (s : Shared) (H : Hp) (E : XK), PSs (cxOf (L2.CX P w) P w K mg base ["self", "place"] "NoWall.__init__" (defScope st) f cdv A outer s H E) (defBody st) (tOst K "place" (tVar 0) (tVar 1))) : FnOk P w K mg base (L2.CX P w) 1 f fd ["self", "place"] (spIni C) := by
  refine F.okX S (fun vs H Q E h => ?_) (fun cdv A outer s H vs Q E hr h => ⟨tOst K "place" (tVar 0) (tVar 1), ho cdv A outer s H E, ?_⟩)
  · obtain ⟨a, i, rfl, _⟩ := h
    rfl
  · obtain ⟨a, i, rfl, ha, k⟩ := h
    exact ⟨_, rfl, _, rfl, a, C, rfl, T, no, .inl ⟨ha, fun dx h1 h2 => k dx h1 h2⟩⟩
theorem jp_raiseP {x : Str} {e : Expr} {te : TE} {Fe : Env → Rs PyData} {p pos pos2 : Pos} (T : EX X.K X.mg ca) (N : NW X.prog X.w X.K X.mg X.base ca) (hr : Room 2 X.A) (hc : X.calm = true) (tk : Takes X (fun cls d _ H => E cls d H)) (he : JS ca X E e te Fe) (hg : Gl X x := by rfl) (hx : eNm 5 = x := by rfl)
    (hdb : (x == ("__debug__" : Str)) = false := by decide) (hst : starEach [e] X.env = (false, eval e X.env) :: starEach [] X.env := by rfl) (hpl : (backTo pos (starEach [] X.env)).any (·.1) = false := by rfl) :
    JP ca X E (.Raise (some (.Call (.Name x p) [e] [] pos)) none pos2) (fun _ σ H => tMkO (ca 5) (spIni (ca 5)) [] (tCons te tNil) σ H fun cls d H' => E cls d H') (fun ρ => Fe ρ >>= fun d => intOf d >>= fun i => .err ⟨5, some i⟩) := by
  have c := T.cl 5 (by omega)
  rw [hx] at c
  obtain ⟨fI, fd, iC, tI, F1, hb⟩ := N.fn
  refine ⟨ps_raise hc tk (pmk_oex N.T iC tI F1 hr hb .nil passL hg c.g (pa_cons he.pe pa_nil hst) hdb hst hpl), fun G0 H0 G H ρ σ rep en hns D nx rt er => ?_⟩
  refine he.sem.use rep hns (fun x e G' H' cl dd n => er x e G' H' cl dd (en.nx.trans n)) fun d ed e1 G1 H1 v n1 r1 q1 hk er1 => ?_
  cases d with
  | int i =>
    cases Dp.int_v q1
    refine ⟨(by show 1 ≤ 1000; decide), fun a ha => ⟨a, i, rfl, upd_same, fun dx h1 h2 => ⟨rfl, dx, [(("place" : Str), .int i)], upd_same, ?_, ?_, ?_⟩⟩⟩
    · rw [upd_ne h2, upd_same]
    · rw [upd_ne h2] at h1
      exact h1
    · have hdx : H1 dx = none := by
        rw [upd_ne h2] at h1
        exact h1
      have fe : upd (L2.del (upd (upd (upd H1 a (exo a (ca 5) none)) dx (exd dx [(("place" : Str), .int i)])) a (exo a (ca 5) (some dx))) a) dx (.xd [(("place" : Str), .int i)]) = upd H1 dx (.xd [(("place" : Str), .int i)]) := by
        funext b
        by_cases hb : b = dx
        · rw [hb, upd_same, upd_same]
        · rw [upd_ne hb, upd_ne hb]
          by_cases hba : b = a
          · rw [hba, L2.del_same, ha]
          · rw [L2.del_ne hba, upd_ne hba, upd_ne hb, upd_ne hba]
      rw [fe]
      refine er ⟨5, some i⟩ e1 (upd G1 dx (.xd [(("place" : Str), .int i)])) _ _ _ (en.nx.trans (n1.trans (Nx.new n1.gh hdx))) ⟨rfl, dx, rfl, upd_same⟩
  | none => exact absurd rfl hk
  | bool i => exact absurd rfl hk
  | str i => exact absurd rfl hk
  | list i => exact absurd rfl hk
  | tuple i => exact absurd rfl hk
  | dict i => exact absurd rfl hk
end

/-! ### try -/
/-- the body of a try: calls whose value is dropped -/
structure JTB (ca : Nat → Addr) (X : Cx) (body : List Stmt) (tb : WX → TS) (F : Env → Rs Unit) : Prop where
  ps : ∀ (W : WX) (pn : List (Addr × Obj)) (xe : Value → Shared → Prop), Takes (X.tr pn xe) W → PassesOwn (model X.prog X.w) X.A X.env xe → PSs (X.tr pn xe) body (tb W)
  sem : ∀ (W : WX) (G H : Hp) (ρ : Env) (σ : L2.St), Rep ⟨X.K, ca⟩ G H ρ σ → F ρ ≠ .stuck → ∀ D : Ends, (F ρ = .ok () → ∀ G' H', Nx G H G' H' → D.nx σ H') → (∀ x, F ρ = .err x → ∀ G' H' cl dd, Nx G H G' H' → XR ⟨X.K, ca⟩ x cl dd G' → W cl dd σ H') → tb W D σ H
def fDrop (F : Env → Rs Sl) : Env → Rs Unit := fun ρ => F ρ >>= fun _ => .ok ()
theorem sem_callS {c : Pc} {E : XK} {f : List PyData → Rs Sl} {np : Nat} {t : TA} {F : Env → Rs (List PyData)} (h : SemG c E t F (RA c)) (hl : ∀ ds, f ds ≠ .stuck → ds.length = np) : SemG c E (fun σ H Q => t σ H fun vs H1 => spF c f np vs H1 Q E) (fCall f F) (RV c) := by
  intro G H ρ σ rep hns Q ok er
  refine h.use rep hns er fun ds ed e1 G1 H1 vs n1 r1 q1 h1 er1 => ?_
  exact ⟨G1, ds, n1.gh, q1, hl ds h1, h1, fun s es G' H' v n q => ok s (e1.trans es) G' H' v (n1.trans n) (RV.mono n1 q), er1⟩
section
variable {ca : Nat → Addr} {X : Cx} {E : XK}
theorem jtb_nil : JTB ca X [] (fun _ => tNext) (fun _ => .ok ()) := ⟨fun W pn xe tk po => pss_nil, fun W G H ρ σ rep hns D nx er => nx rfl G H (Nx.refl rep.gh)⟩
theorem jtb_call {x : Str} {k np : Nat} {fF : List PyData → Rs Sl} {e : Expr} {es : List Expr} {t : TA} {Fa : Env → Rs (List PyData)} {p pos pos2 : Pos} {rest : List Stmt} {tr : WX → TS} {Fr : Env → Rs Unit} (C : Callee X.prog X.w X.K X.mg X.base ca x k fF np) (hr : Room k X.A)
    (ha : ∀ (pn : List (Addr × Obj)) (xe : Value → Shared → Prop) (E : XK), JA ca (X.tr pn xe) E (e :: es) t Fa) (R : JTB ca X rest tr Fr)
    (hg : ∀ pn xe, Gl (X.tr pn xe) x := by intro _ _; rfl) (hdb : (x == ("__debug__" : Str)) = false := by decide) (he : starEach (e :: es) X.env = (false, eval e X.env) :: starEach es X.env := by rfl) (hpl : (backTo pos (starEach es X.env)).any (·.1) = false := by rfl)
    (hs : swapsWith (.Call (.Name x p) (e :: es) [] pos) none pos2.line X.env = pure false := by rfl) :
    JTB ca X (.Expr (.Call (.Name x p) (e :: es) [] pos) pos2 :: rest) (fun W => tSeq (tDrop (tCallS (spF ⟨X.K, ca⟩ fF np) (WE W) t)) (tr W)) (fun ρ => fDrop (fCall fF Fa) ρ >>= fun _ => Fr ρ) := by
  obtain ⟨f, fd, ps, F, hm, hk, hb⟩ := C.ex
  refine ⟨fun W pn xe tk po => pss_cons (ps_expr (pe_callS (X := X.tr pn xe) F hr (hg pn xe) hm hk hb (fun σ => passAt tk σ) (ha pn xe E0).pa hdb he hpl) hs) (R.ps W pn xe tk po), fun W G H ρ σ rep hns D nx er => ?_⟩
  have sm := (ha [] (fun _ _ => False) (fun cls d H => W cls d σ H)).sem
  refine sem_callS (f := fF) (np := np) sm C.len G H ρ σ rep (fun z => hns (by show (fDrop (fCall fF Fa) ρ >>= fun _ => Fr ρ) = _; unfold fDrop; rw [z]; rfl)) (fun v H1 => tr W D σ H1) (fun s es' G' H' v n q => ?_) fun y ey G' H' cl dd n xr => ?_
  · have e1 : (fDrop (fCall fF Fa) ρ >>= fun _ => Fr ρ) = Fr ρ := by unfold fDrop; rw [es']; rfl
    rw [e1] at hns nx er
    exact R.sem W G' H' ρ σ (rep.nx n) hns D (fun z G2 H2 n2 => nx z G2 H2 (n.trans n2)) fun y ey G2 H2 cl dd n2 xr => er y ey G2 H2 cl dd (n.trans n2) xr
  · refine er y ?_ G' H' cl dd n xr
    unfold fDrop
    rw [ey]
    rfl
theorem jtb_if {c : Expr} {b : List Stmt} {tc : TT} {tb : WX → TS} {Fc : Env → Rs Bool} {Fb : Env → Rs Unit} {pos : Pos} {rest : List Stmt} {tr : WX → TS} {Fr : Env → Rs Unit} (hc : ∀ (pn : List (Addr × Obj)) (xe : Value → Shared → Prop) (E : XK), JT ca (X.tr pn xe) E c tc Fc) (hb : JTB ca X b tb Fb) (R : JTB ca X rest tr Fr) :
    JTB ca X (.If c b [] pos :: rest) (fun W => tSeq (tIfS tc (tb W) tNext) (tr W)) (fun ρ => Fc ρ >>= fun k => (if k = true then Fb ρ else .ok ()) >>= fun _ => Fr ρ) := by
  refine ⟨fun W pn xe tk po => pss_cons (ps_if (hc pn xe E0).pt (hb.ps W pn xe tk po) pss_nil) (R.ps W pn xe tk po), fun W G H ρ σ rep hns D nx er => ?_⟩
  refine (hc [] (fun _ _ => False) (fun cls d H => W cls d σ H)).sem.use rep hns (fun y ey G' H' cl dd n xr => er y ey G' H' cl dd n xr) fun k ek e1 G1 H1 v n1 r1 q1 hk _ => ?_
  cases q1
  rw [e1] at nx er
  cases k with
  | true =>
    show tb W _ σ H1
    have hns1 : (Fb ρ >>= fun _ => Fr ρ) ≠ .stuck := hk
    have nx1 : (Fb ρ >>= fun _ => Fr ρ) = .ok () → _ := nx
    have er1 : ∀ x, (Fb ρ >>= fun _ => Fr ρ) = .err x → _ := er
    refine hb.sem W G1 H1 ρ σ r1 (fun z => hns1 (by rw [z]; rfl)) _ (fun z G2 H2 n2 => ?_) fun y ey G2 H2 cl dd n2 xr => er1 y (by rw [ey]; rfl) G2 H2 cl dd (n1.trans n2) xr
    have e2 : (Fb ρ >>= fun _ => Fr ρ) = Fr ρ := by rw [z]; rfl
    rw [e2] at hns1 nx1 er1
    exact R.sem W G2 H2 ρ σ (r1.nx n2) hns1 D (fun z G3 H3 n3 => nx1 z G3 H3 ((n1.trans n2).trans n3)) fun y ey G3 H3 cl dd n3 xr => er1 y ey G3 H3 cl dd ((n1.trans n2).trans n3) xr
  | false =>
    show tr W D σ H1
    have hns1 : Fr ρ ≠ .stuck := hk
    exact R.sem W G1 H1 ρ σ r1 hns1 D (fun z G3 H3 n3 => nx z G3 H3 (n1.trans n3)) fun y ey G3 H3 cl dd n3 xr => er y ey G3 H3 cl dd (n1.trans n3) xr
/-- try: body except WallError as n: y = n (n in slot i, y in slot j) -/
def fTry (i j : Nat) (B : Env → Rs Unit) : Env → Rs Out := fun ρ => match B ρ with
  | .ok _ => .ok (.nx ρ)
  | .err x => if eOk x.cls ∧ i < ρ.length then .ok (.nx (((ρ.set i .no).set j (.exn x)).set i .no)) else .stuck
  | .stuck => .stuck
theorem ent_no {G0 H0 G H : Hp} {ρ : Env} {σ : L2.St} (i : Nat) (o : Option V) (en : Ent G0 H0 G H ρ σ) : Ent G0 H0 G H (ρ.set i .no) (σ.set i o) := by
  refine ⟨en.nx, fun k s p e hs f => ?_⟩
  by_cases hk : i = k
  · rw [List.getElem?_set, if_pos hk] at e
    split at e
    · cases e; cases hs
    · cases e
  · rw [List.getElem?_set, if_neg hk] at e f
    exact en.own k s p e hs f
theorem jp_try (i j : Nat) {n y : Str} {body : List Stmt} {tb : WX → TS} {B : Env → Rs Unit} {np py pn pa pos pos' : Pos} (T : EX X.K X.mg ca) (hB : JTB ca X body tb B) (hN : X.N.Nodup) (hi : X.N[i]? = some n) (hj : X.N[j]? = some y) (hln : X.env.kindOf n = some .local) (hly : X.env.kindOf y = some .local)
    (h1 : (n == ("__debug__" : Str)) = false := by decide) (h2 : (n == ("__classdict__" : Str)) = false := by decide) (hg : Gl X "WallError" := by rfl) (hex : X.ex = [] := by rfl) (hs : X.stack = X.env :: X.outer := by rfl) (hf : X.env.frame = some X.env.locals := by rfl) (hsw : swapsWith (.Name n pn) (some (.Name y py)) pa.line X.env = pure false := by rfl) :
    JP ca X E (.Try body [.ExceptHandler (some (.Name "WallError" np)) (some n) [.Assign [.Name y py] (.Name n pn) pa] pos'] [] [] pos) (fun D σ H => tb (wKeep X.K (.ref (ca 0)) i (tAsg (tVar i) (gName j)) D) D σ H) (fTry i j B) := by
  have c := T.cl 0 (by decide)
  have vis : ∀ (a : Addr) (pn' : List (Addr × Obj)), PE (X.suite a pn') (.Name n pn) (tVar i) := fun a pn' => pe_var (X := X.suite a pn') hi (.inl hln) h1 h2
  refine ⟨ps_try_keep hex hs hf hN hi hln ⟨hg, by decide, .inl c.g⟩ hB.ps (fun a pn' => pss_one (ps_set (X := X.suite a pn') (i := j) hN hj (.inl hly) (vis a pn') hsw (.inr hly))), fun G0 H0 G H ρ σ rep en hns D nx rt er => ?_⟩
  have nx0 := nx
  unfold fTry at hns nx
  refine hB.sem _ G H ρ σ rep (fun z => by rw [z] at hns; exact hns rfl) D (fun z G' H' n' => ?_) fun x ex G' H' cl dd n' xr => ?_
  · rw [z] at nx
    exact nx ρ rfl G' H' σ (rep.nx n') (en.go n')
  · rw [ex] at hns nx
    by_cases hx : eOk x.cls ∧ i < ρ.length
    · have eF : fTry i j B ρ = .ok (.nx (((ρ.set i .no).set j (.exn x)).set i .no)) := by unfold fTry; rw [ex]; exact if_pos hx
      replace nx := nx0 _ eF
      obtain ⟨rfl, hp⟩ := xr
      refine ⟨T.exm hx.1, _, rfl, fun a ha => ?_⟩
      have ga : G' a = none := n'.gh.back ha
      have m : Nx G' H' (upd G' a (excO (ca x.cls) dd a)) (upd H' a (excO (ca x.cls) dd a)) := Nx.new n'.gh ha
      have rep1 : Rep ⟨X.K, ca⟩ G' H' (ρ.set i .no) (σ.set i (some (.ref a))) := (rep.nx n').set rfl trivial
      have en1 : Ent G0 H0 G' H' (ρ.set i .no) (σ.set i (some (.ref a))) := ent_no i _ (en.go n')
      have hil : i < σ.length := by
        rw [← rep.len]
        exact hx.2
      refine ⟨.ref a, by rw [List.getElem?_set_self hil], ?_⟩
      have q : RV ⟨X.K, ca⟩ G' H' (upd G' a (excO (ca x.cls) dd a)) (upd H' a (excO (ca x.cls) dd a)) (.ref a) (.exn x) := by
        refine ⟨a, dd, rfl, upd_same, ?_⟩
        cases hpl : x.place with
        | none => rw [hpl] at hp; exact hp
        | some pl =>
          rw [hpl] at hp
          obtain ⟨d, q1, q2⟩ := hp
          exact ⟨d, q1, m.g _ _ q2⟩
      obtain ⟨rep2, en2⟩ := rep_take j rep1 en1 m q
      exact nx _ _ _ (rep2.set rfl trivial) (ent_no i _ en2)
    · exact absurd (if_neg hx) hns
end

/-! ### what is asked of a held error -/
section
variable {ca : Nat → Addr} {X : Cx} {E : XK}
/-- a held error of class i, or a value of a known type -/
def TyE (K : PySem.W.Frag) (ca : Nat → Addr) (H : Hp) (x : V) (t : Value) : Prop := TyX K H x t ∨ ∃ (a : Addr) (i : Nat) (d : Option Addr), x = .ref a ∧ t = .ref (ca i) ∧ eOk i ∧ H a = some (excO (ca i) d a) ∧ (d = none ∨ ∃ dd fs, d = some dd ∧ H dd = some (.xd fs))
theorem kit_ofE {pins : List (Addr × Obj)} {σ : L2.St} {H : Hp} {s : Shared} (T : EX X.K X.mg ca) {x : V} {u t : Value} (I : Inv X pins σ H s) (rx : RelV x u) (ty : TyE X.K ca H x t) : ∃ P : Heap → Prop, PySem.W.KitX X.K u t P ∧ P s.heap ∧ u ≠ .builtin "__main__.__loader__#opaque" := by
  rcases ty with h | ⟨a, i, d, rfl, rfl, hi, ha, hd⟩
  · exact kit_of I rx h
  · cases (show u = Value.ref a from rx)
    have c := T.cl i hi
    obtain ⟨⟨oe, vs, e1, e2, e3, e4⟩, _, _⟩ := (show ObjOk X.prog X.w H s.heap a (excO (ca i) d a) from I.hok a _ ha)
    have hcl : (PySem.W.clsIn X.K (ca i)).isSome = true := c.i
    rcases hd with rfl | ⟨dd, fs, rfl, hdd⟩
    · exact ⟨_, PySem.W.kitx_exc (ox := oe) (od := none) hcl c.ga c.gg c.b c.ha T.hn T.ht c.hm, ⟨e1, e2, by unfold PySem.W.notCls; rw [e4] <;> rfl, by rw [e3] <;> trivial⟩, fun z => nomatch z⟩
    · obtain ⟨o, ho⟩ := objOk_get (I.hok dd _ hdd)
      exact ⟨_, PySem.W.kitx_exc (ox := oe) (od := some o) hcl c.ga c.gg c.b c.ha T.hn T.ht c.hm, ⟨e1, e2, by unfold PySem.W.notCls; rw [e4] <;> rfl, by rw [e3]; exact ho⟩, fun z => nomatch z⟩
def rIsE1 (K : PySem.W.Frag) (ca : Nat → Addr) : List V → Hp → VK → Prop := fun xs H Q => ∃ (x c : V) (t u : Value) (b : Bool), xs = [x, c] ∧ ClsV c u ∧ TyE K ca H x t ∧ PySem.W.kitOne K t u = some b ∧ Q (.bl b) H
def rIsET (K : PySem.W.Frag) (ca : Nat → Addr) : List V → Hp → VK → Prop := fun xs H Q => ∃ (x : V) (tp : Addr) (cs : List V) (t : Value) (us : List Value) (b : Bool), xs = [x, .ref tp] ∧ H tp = some (.tup cs) ∧ Paired ClsV cs us ∧ TyE K ca H x t ∧ PySem.W.kitAny K t us = some b ∧ Q (.bl b) H
theorem call_isE1 (T : EX X.K X.mg ca) : CallR X (.builtin "isinstance") (rIsE1 X.K ca) := by
  intro pins s σ H xs us Q I r h
  obtain ⟨x, c, t, u, b, rfl, k, ty, e, q⟩ := h
  obtain ⟨u1, u2, rfl, r1, r2⟩ := vals2 r
  have e2 := k.eq r2
  subst e2
  obtain ⟨P, Z, p, hx⟩ := kit_ofE T I r1 ty
  exact PySem.W.kia_one Z I.kIn p e hx fun tk => ⟨.bl b, H, I.tok tk, rfl, q⟩
theorem call_isET (T : EX X.K X.mg ca) : CallR X (.builtin "isinstance") (rIsET X.K ca) := by
  intro pins s σ H xs us Q I r h
  obtain ⟨x, tp, cs, t, ws, b, rfl, hT, k, ty, e, q⟩ := h
  obtain ⟨u1, u2, rfl, r1, r2⟩ := vals2 r
  cases (show u2 = Value.ref tp from r2)
  obtain ⟨P, Z, p, hx⟩ := kit_ofE T I r1 ty
  obtain ⟨_, its, rv, o, h1, h2, n, h3⟩ := (show ObjOk X.prog X.w H s.heap tp (.tup cs) from I.hok tp _ hT)
  have e3 := ClsV.all k rv
  subst e3
  obtain ⟨oc, od, dt, sl⟩ := o
  simp only at h2 h3
  subst h2 h3
  exact PySem.W.kia_tup Z I.kIn p h1 e hx fun tk => ⟨.bl b, H, I.tok tk, rfl, q⟩
/-- the answer for a slot: f for an error's class, false for None -/
def isES (f : Nat → Bool) : Option Sl → Rs PyData
  | some (.exn x) => if eOk x.cls then .ok (.bool (f x.cls)) else .stuck
  | some (.sh .none) => .ok (.bool false)
  | _ => .stuck
def fIsE (i : Nat) (f : Nat → Bool) : Env → Rs PyData := fun ρ => isES f ρ[i]?
/-- the slot's value is a held error of class k -/
def IsExn (ca : Nat → Addr) (G : Hp) (v : V) (k : Nat) : Prop := ∃ (a : Addr) (d : Option Addr), v = .ref a ∧ eOk k ∧ G a = some (excO (ca k) d a) ∧ (d = none ∨ ∃ dd fs, d = some dd ∧ G dd = some (.xd fs))
theorem IsExn.ty {K : PySem.W.Frag} {G H : Hp} {v : V} {k : Nat} (h : IsExn ca G v k) (e : Ex G H) : TyE K ca H v (.ref (ca k)) := by
  obtain ⟨a, d, rfl, hk, ha, hd⟩ := h
  refine .inr ⟨a, k, d, rfl, rfl, hk, e _ _ ha, ?_⟩
  rcases hd with rfl | ⟨dd, fs, rfl, hdd⟩
  · exact .inl rfl
  · exact .inr ⟨dd, fs, rfl, e _ _ hdd⟩
theorem IsExn.lt {G : Hp} {v : V} {k : Nat} (h : IsExn ca G v k) : eOk k := by
  obtain ⟨a, d, rfl, hk, _⟩ := h
  exact hk
theorem ty_non {K : PySem.W.Frag} {H : Hp} : TyE K ca H .non (.type "NoneType") := .inl (.base .non)
theorem rep_ty {c : Pc} {G H : Hp} {ρ : Env} {σ : L2.St} {i : Nat} {f : Nat → Bool} (rep : Rep c G H ρ σ) (hns : isES f ρ[i]? ≠ .stuck) : ∃ v, σ[i]? = some (some v) ∧
    ((∃ k, IsExn c.ca G v k ∧ isES f ρ[i]? = .ok (.bool (f k))) ∨ (v = .non ∧ isES f ρ[i]? = .ok (.bool false))) := by
  cases hs : ρ[i]? with
  | none => rw [hs] at hns; exact absurd rfl hns
  | some s =>
    rw [hs] at hns
    obtain ⟨o, e1, q⟩ := rep.sl i s hs
    cases s with
    | no => exact absurd rfl hns
    | hal _ _ => exact absurd rfl hns
    | ol ds => exact absurd rfl hns
    | od ds => exact absurd rfl hns
    | sh d =>
      obtain ⟨v, rfl, q⟩ := q
      cases d with
      | none =>
        cases q
        exact ⟨_, e1, .inr ⟨rfl, rfl⟩⟩
      | bool i => exact absurd rfl hns
      | int i => exact absurd rfl hns
      | str i => exact absurd rfl hns
      | list i => exact absurd rfl hns
      | tuple i => exact absurd rfl hns
      | dict i => exact absurd rfl hns
    | exn x =>
      obtain ⟨v, rfl, a, dd, rfl, ha, hp⟩ := q
      unfold isES at hns
      by_cases hx : eOk x.cls
      · refine ⟨_, e1, .inl ⟨x.cls, ⟨a, dd, rfl, hx, ha, ?_⟩, if_pos hx⟩⟩
        cases hpl : x.place with
        | none => rw [hpl] at hp; exact .inl hp
        | some pl =>
          rw [hpl] at hp
          obtain ⟨d, q1, q2⟩ := hp
          exact .inr ⟨d, _, q1, q2⟩
      · exact absurd (if_neg hx) hns
/-- isinstance(x, C), C an own error class -/
theorem js_isE (i j : Nat) {x y : Str} {p p1 p2 pos : Pos} (T : EX X.K X.mg ca) (ha : PE X (.Name x p1) (tVar i)) (hm : X.mg "isinstance" = none) (hj : eOk j := by decide) (hy : eNm j = y := by rfl) (hgT : Gl X y := by rfl) (hg : Gl X "isinstance" := by rfl) (hd : (y == ("__debug__" : Str)) = false := by decide)
    (hst : starEach [.Name x p1, .Name y p2] X.env = (false, eval (.Name x p1) X.env) :: starEach [.Name y p2] X.env := by rfl) (hst2 : starEach [.Name y p2] X.env = (false, eval (.Name y p2) X.env) :: starEach [] X.env := by rfl) :
    JS ca X E (.Call (.Name "isinstance" p) [.Name x p1, .Name y p2] [] pos) (tCB (rIsE1 X.K ca) (tCons (tVar i) (tCons (tC (.ref (ca j))) tNil))) (fIsE i (fun k => eSub k j)) := by
  have c := T.cl j hj
  rw [hy] at c
  refine ⟨pe_callB (call_isE1 T) hg hm (by decide +kernel) (pa_cons ha (pa_cons (pe_glob (v := .ref (ca j)) hgT c.g rfl hd) pa_nil hst2) hst) (he := hst), fun G H ρ σ rep hns Q ok er => ?_⟩
  obtain ⟨v, e1, h⟩ := rep_ty rep hns
  refine ⟨v, e1, ?_⟩
  rcases h with ⟨k, ty, ek⟩ | ⟨rfl, ek⟩
  · exact ⟨v, .ref (ca j), _, _, _, rfl, .own _, ty.ty rep.gh, T.kit ty.lt hj, ok _ ek G H _ (Nx.refl rep.gh) (.bl _)⟩
  · exact ⟨.non, .ref (ca j), _, _, _, rfl, .own _, ty_non, T.kitN hj, ok _ ek G H _ (Nx.refl rep.gh) (.bl _)⟩
/-- isinstance(x, ValueError) -/
theorem js_isVE (i : Nat) {x : Str} {p p1 p2 pos : Pos} (T : EX X.K X.mg ca) (ha : PE X (.Name x p1) (tVar i)) (hm : X.mg "isinstance" = none) (hmV : X.mg "ValueError" = none) (hgT : Gl X "ValueError" := by rfl) (hg : Gl X "isinstance" := by rfl)
    (hst : starEach [.Name x p1, .Name "ValueError" p2] X.env = (false, eval (.Name x p1) X.env) :: starEach [.Name "ValueError" p2] X.env := by rfl) (hst2 : starEach [.Name "ValueError" p2] X.env = (false, eval (.Name "ValueError" p2) X.env) :: starEach [] X.env := by rfl) :
    JS ca X E (.Call (.Name "isinstance" p) [.Name x p1, .Name "ValueError" p2] [] pos) (tCB (rIsE1 X.K ca) (tCons (tVar i) (tCons (tC (.ty "ValueError")) tNil))) (fIsE i (fun _ => true)) := by
  refine ⟨pe_callB (call_isE1 T) hg hm (by decide +kernel) (pa_cons ha (pa_cons (pe_bltn (v := .ty "ValueError") hgT hmV (by decide +kernel) rfl (by decide) (by decide)) pa_nil hst2) hst) (he := hst), fun G H ρ σ rep hns Q ok er => ?_⟩
  obtain ⟨v, e1, h⟩ := rep_ty rep hns
  refine ⟨v, e1, ?_⟩
  rcases h with ⟨k, ty, ek⟩ | ⟨rfl, ek⟩
  · exact ⟨v, .ty "ValueError", _, _, _, rfl, .ty _, ty.ty rep.gh, T.kitV ty.lt, ok _ ek G H _ (Nx.refl rep.gh) (.bl _)⟩
  · exact ⟨.non, .ty "ValueError", _, _, _, rfl, .ty _, ty_non, kitNV, ok _ ek G H _ (Nx.refl rep.gh) (.bl _)⟩
/-- the names of own error classes, one after the other -/
def clsT (ca : Nat → Addr) : List Nat → TA
  | [] => tNil
  | j :: r => tCons (tC (.ref (ca j))) (clsT ca r)
structure JN (ca : Nat → Addr) (X : Cx) (es : List Expr) (js : List Nat) : Prop where
  pa : PA X es (clsT ca js)
  lt : ∀ j ∈ js, eOk j
theorem jn_nil : JN ca X [] [] := ⟨pa_nil, fun _ h => nomatch h⟩
theorem jn_cons (j : Nat) {y : Str} {p : Pos} {es : List Expr} {js : List Nat} (T : EX X.K X.mg ca) (h : JN ca X es js) (hj : eOk j := by decide) (hy : eNm j = y := by rfl) (hgT : Gl X y := by rfl) (hd : (y == ("__debug__" : Str)) = false := by decide)
    (hst : starEach (.Name y p :: es) X.env = (false, eval (.Name y p) X.env) :: starEach es X.env := by rfl) : JN ca X (.Name y p :: es) (j :: js) := by
  have c := T.cl j hj
  rw [hy] at c
  exact ⟨pa_cons (pe_glob (v := .ref (ca j)) hgT c.g rfl hd) h.pa hst, fun k hk => by
    rcases List.mem_cons.mp hk with rfl | h2
    · exact hj
    · exact h.lt k h2⟩
theorem clsT_go {ca : Nat → Addr} {σ : L2.St} {H : Hp} : ∀ (js : List Nat) (Q : List V → Hp → Prop), Q (js.map fun j => .ref (ca j)) H → clsT ca js σ H Q
  | [], _, q => q
  | j :: r, Q, q => clsT_go r (fun vs H' => Q (.ref (ca j) :: vs) H') q
theorem clsV_all {ca : Nat → Addr} : ∀ js : List Nat, Paired ClsV (js.map fun j => V.ref (ca j)) (js.map fun j => Value.ref (ca j))
  | [] => .nil
  | j :: r => .cons (.own _) (clsV_all r)
theorem kit_anyE (T : EX X.K X.mg ca) {k : Nat} (hk : eOk k) : ∀ js : List Nat, (∀ j ∈ js, eOk j) → PySem.W.kitAny X.K (.ref (ca k)) (js.map fun j => Value.ref (ca j)) = some (js.any fun j => eSub k j)
  | [], _ => rfl
  | j :: r, h => by
    refine kitAny_cons (T.kit hk (h j List.mem_cons_self)) (fun e => ?_) fun e => ?_
    · rw [List.any_cons, e, Bool.false_or]
      exact kit_anyE T hk r fun j hj => h j (List.mem_cons_of_mem _ hj)
    · rw [List.any_cons, e, Bool.true_or]
theorem kit_anyN (T : EX X.K X.mg ca) : ∀ js : List Nat, (∀ j ∈ js, eOk j) → PySem.W.kitAny X.K (.type "NoneType") (js.map fun j => Value.ref (ca j)) = some false
  | [], _ => rfl
  | j :: r, h => kitAny_cons (T.kitN (h j List.mem_cons_self)) (fun _ => kit_anyN T r fun j hj => h j (List.mem_cons_of_mem _ hj)) fun e => nomatch e
theorem js_isET (i : Nat) {js : List Nat} {x : Str} {es : List Expr} {kt : Nat} {p p1 p2 pos : Pos} (T : EX X.K X.mg ca) (ha : PE X (.Name x p1) (tVar i)) (hes : JN ca X es js) (hm : X.mg "isinstance" = none) (hz : js.length ≤ 10 := by decide) (hg : Gl X "isinstance" := by rfl)
    (hst : starEach [.Name x p1, .Tuple es kt p2] X.env = (false, eval (.Name x p1) X.env) :: starEach [.Tuple es kt p2] X.env := by rfl) (hst2 : starEach [.Tuple es kt p2] X.env = (false, eval (.Tuple es kt p2) X.env) :: starEach [] X.env := by rfl) :
    JS ca X E (.Call (.Name "isinstance" p) [.Name x p1, .Tuple es kt p2] [] pos) (tCB (rIsET X.K ca) (tCons (tVar i) (tCons (tTup (clsT ca js)) tNil))) (fIsE i (fun k => js.any fun j => eSub k j)) := by
  refine ⟨pe_callB (call_isET T) hg hm (by decide +kernel) (pa_cons ha (pa_cons (pe_tup hes.pa) pa_nil hst2) hst) (he := hst), fun G H ρ σ rep hns Q ok er => ?_⟩
  obtain ⟨v, e1, h⟩ := rep_ty rep hns
  refine ⟨v, e1, clsT_go js _ ⟨by rw [List.length_map]; exact lim_le (Nat.le_trans hz (by decide)), fun q hq => ?_⟩⟩
  have m : Nx G H G (upd H q (.tup (js.map fun j => .ref (ca j)))) := Nx.hid rep.gh hq
  rcases h with ⟨k, ty, ek⟩ | ⟨rfl, ek⟩
  · exact ⟨v, q, _, _, _, _, rfl, upd_same, clsV_all js, ty.ty m.gh, kit_anyE T ty.lt js hes.lt, ok _ ek G _ _ m (.bl _)⟩
  · exact ⟨.non, q, _, _, _, _, rfl, upd_same, clsV_all js, ty_non, kit_anyN T js hes.lt, ok _ ek G _ _ m (.bl _)⟩
/-- x.place of a held error -/
def placeS : Option Sl → Rs PyData
  | some (.exn ⟨5, some p⟩) => .ok (.int p)
  | _ => .stuck
def fPlace (i : Nat) : Env → Rs PyData := fun ρ => placeS ρ[i]?
def tPlace (C : Addr) (te : TE) : TE := fun σ H Q => te σ H fun x H1 => ∃ (a dd : Addr) (i : Int), x = .ref a ∧ H1 a = some (excO C (some dd) a) ∧ H1 dd = some (.xd [(("place" : Str), .int i)]) ∧ Q (.int i) H1
theorem pe_place (T : EX X.K X.mg ca) (no : PySem.W.findIn X.K (.ref (ca 5)) "place" = some none) {e : Expr} {te : TE} {pos : Pos} (he : PE X e te) (hb : attributeBase e "place" X.env (eval e X.env) = eval e X.env := by rfl) : PE X (.Attribute e "place" pos) (tPlace (ca 5) te) := by
  have c := T.cl 5 (by decide)
  refine ⟨fun pins s σ H Q I h => ?_⟩
  refine attr_of hb (thn (he.run pins s σ H _ I h) fun u s1 hh => ?_)
  obtain ⟨x, H1, I1, rx, a, dd, i, rfl, ha, hdd, q⟩ := hh
  obtain rfl : u = Value.ref a := rx
  obtain ⟨⟨oe, vs, e1, e2, e3, e4⟩, _, _⟩ := (show ObjOk X.prog X.w H1 s1.heap a (excO (ca 5) (some dd) a) from I1.hok a _ ha)
  obtain ⟨mA, hns, hr⟩ := (show ObjOk X.prog X.w H1 s1.heap dd (.xd [(("place" : Str), .int i)]) from I1.hok dd _ hdd)
  obtain ⟨od, ho, hl⟩ := lookIn_ns hns
  have l : List.lookup ("place" : Str) [(("place" : Str), V.int i)] = some (V.int i) := by simp [List.lookup]
  obtain ⟨u, hu, ru⟩ := RelO.some_of (v := .int i) (o := mA "place") (by rw [← l]; exact hr "place")
  have J : PySem.W.InstAt s1.heap a oe (ca 5) (some od) := ⟨e1, e2, by unfold PySem.W.notCls; rw [e4] <;> rfl, by rw [e3]; exact ho⟩
  exact HandSPX.exc_get I1.kIn J c.ga c.gg c.b (PySem.W.findObj_own c.hd no rfl (by rw [hl, hu])) (handed_of ru) ⟨.int i, H1, I1.tok _, ru, q⟩
theorem js_place (i : Nat) {x : Str} {p pos : Pos} (T : EX X.K X.mg ca) (no : PySem.W.findIn X.K (.ref (ca 5)) "place" = some none) (ha : PE X (.Name x p) (tVar i)) (hb : attributeBase (.Name x p) "place" X.env (eval (.Name x p) X.env) = eval (.Name x p) X.env := by rfl) :
    JS ca X E (.Attribute (.Name x p) "place" pos) (tPlace (ca 5) (tVar i)) (fPlace i) := by
  refine ⟨pe_place T no ha hb, fun G H ρ σ rep hns Q ok er => ?_⟩
  unfold fPlace at hns ok
  cases hs : ρ[i]? with
  | none => rw [hs] at hns; exact absurd rfl hns
  | some s =>
    rw [hs] at hns ok
    obtain ⟨o, e1, q⟩ := rep.sl i s hs
    unfold placeS at hns ok
    split at hns
    · rename_i pl hpl
      cases hpl
      obtain ⟨v, rfl, a, dd, rfl, hga, d, rfl, hgd⟩ := q
      exact ⟨_, e1, a, d, pl, rfl, rep.gh _ _ hga, rep.gh _ _ hgd, ok _ rfl G H _ (Nx.refl rep.gh) (.int _)⟩
    · exact absurd rfl hns
/-- x is None, of a slot that may hold an error -/
def noneS : Option Sl → Rs PyData
  | some (.exn _) => .ok (.bool false)
  | some (.sh d) => .ok (.bool (isNo d))
  | _ => .stuck
def fNoneV (i : Nat) : Env → Rs PyData := fun ρ => noneS ρ[i]?
theorem sem_noneV {c : Pc} (i : Nat) : SemG c E (tOp (fun x y H Q => y = .non ∧ Q (.bl (decide (x = .non))) H) (tVar i) (tC .non)) (fNoneV i) (RS c) := by
  intro G H ρ σ rep hns Q ok er
  unfold fNoneV at hns ok
  cases hs : ρ[i]? with
  | none => rw [hs] at hns; exact absurd rfl hns
  | some s =>
    rw [hs] at hns ok
    obtain ⟨o, e1, q⟩ := rep.sl i s hs
    cases s with
    | no => exact absurd rfl hns
    | hal _ _ => exact absurd rfl hns
    | ol ds => exact absurd rfl hns
    | od ds => exact absurd rfl hns
    | sh d =>
      obtain ⟨v, rfl, q⟩ := q
      refine ⟨v, e1, rfl, ?_⟩
      rw [db_isNo (H := H) (.inl q)]
      exact ok _ rfl G H _ (Nx.refl rep.gh) (.bl _)
    | exn x =>
      obtain ⟨v, rfl, a, dd, rfl, ha, hp⟩ := q
      exact ⟨_, e1, rfl, ok _ rfl G H _ (Nx.refl rep.gh) (.bl _)⟩
end
end PF
namespace PF
open PySem L2
def caL (l : List Addr) : Nat → Addr := fun i => l.getD i 0
section
variable {ca : Nat → Addr} {X : Cx} {E : XK} {x : Str} {p pos p2 : Pos} {j : Nat}
theorem js_noneV (i : Nat) (h : PE X (.Name x p) (tVar i)) : JS ca X E (.Compare (.Name x p) [.Is] [.Constant .none j p2] pos) (tOp (fun x y H Q => y = .non ∧ Q (.bl (decide (x = .non))) H) (tVar i) (tC .non)) (fNoneV i) :=
  ⟨pe_cmpR op_isN h pe_non (nomark _), sem_noneV i⟩
theorem jt_noneV (i : Nat) (h : PE X (.Name x p) (tVar i)) : JT ca X E (.Compare (.Name x p) [.Is] [.Constant .none j p2] pos) (tTest (tOp (fun x y H Q => y = .non ∧ Q (.bl (decide (x = .non))) H) (tVar i) (tC .non))) (fB (fNoneV i)) :=
  ⟨pt_cmpR op_isN h pe_non (nomark _), sem_test (sem_noneV i)⟩
end
end PF

namespace PF
open PySem L2

/-! ### the rules of reckoning -/
section
variable {α β : Type} {ρ : Env} {F G : Env → Rs PyData} {Fv : Env → Rs Sl} {Fs : Env → Rs (List PyData)} {Fb Gb : Env → Rs Bool} {A B : Env → Rs Out}
@[simp] theorem z_ok (a : α) (f : α → Rs β) : (Rs.ok a >>= f) = f a := (rfl)
@[simp] theorem z_err (x : Exn) (f : α → Rs β) : ((Rs.err x : Rs α) >>= f) = .err x := (rfl)
@[simp] theorem z_stuck (f : α → Rs β) : ((Rs.stuck : Rs α) >>= f) = .stuck := (rfl)
@[simp] theorem z_varB (i : Nat) : fVarB i ρ = slB ρ[i]? := (rfl)
@[simp] theorem z_varS (i : Nat) : fVarS i ρ = slS ρ[i]? := (rfl)
@[simp] theorem z_slB (d : PyData) : slB (some (.sh d)) = .ok d := (rfl)
@[simp] theorem z_slBo (d : List PyData) : slB (some (.ol d)) = .ok (.list d) := (rfl)
@[simp] theorem z_slS (d : PyData) : slS (some (.sh d)) = .ok d := (rfl)
@[simp] theorem z_c (d : PyData) : fC d ρ = .ok d := (rfl)
@[simp] theorem z_op (f : PyData → PyData → Rs α) : fOp f F G ρ = (F ρ >>= fun a => G ρ >>= fun b => f a b) := (rfl)
@[simp] theorem z_un (f : α → Rs β) (F : Env → Rs α) : fUn f F ρ = (F ρ >>= f) := (rfl)
@[simp] theorem z_sh : fSh Fv ρ = (Fv ρ >>= slShare) := (rfl)
@[simp] theorem z_v : fV F ρ = (F ρ >>= fun d => .ok (.sh d)) := (rfl)
@[simp] theorem z_slsh (d : PyData) : slShare (.sh d) = .ok d := (rfl)
@[simp] theorem z_slol (d : List PyData) : slShare (.ol d) = .ok (.list d) := (rfl)
@[simp] theorem z_nil : fNil ρ = .ok [] := (rfl)
@[simp] theorem z_cons : fCons F Fs ρ = (F ρ >>= fun d => Fs ρ >>= fun ds => .ok (d :: ds)) := (rfl)
@[simp] theorem z_call (f : List PyData → Rs Sl) : fCall f Fs ρ = (Fs ρ >>= f) := (rfl)
@[simp] theorem z_not : fNot Fb ρ = (Fb ρ >>= fun b => .ok (!b)) := (rfl)
@[simp] theorem z_and : fAnd Fb Gb ρ = (Fb ρ >>= fun b => if b = true then Gb ρ else .ok false) := (rfl)
@[simp] theorem z_or : fOr Fb Gb ρ = (Fb ρ >>= fun b => if b = true then .ok true else Gb ρ) := (rfl)
@[simp] theorem z_andV : fAndV F G ρ = (F ρ >>= fun a => boolOf a >>= fun b => if b = true then G ρ else .ok (.bool false)) := (rfl)
@[simp] theorem z_orV : fOrV F G ρ = (F ρ >>= fun a => boolOf a >>= fun b => if b = true then .ok (.bool true) else G ρ) := (rfl)
@[simp] theorem z_notV : fNotV F ρ = (F ρ >>= fun a => boolOf a >>= fun b => .ok (.bool (!b))) := (rfl)
@[simp] theorem z_b : fB F ρ = (F ρ >>= boolOf) := (rfl)
@[simp] theorem z_boolOf (b : Bool) : boolOf (.bool b) = .ok b := (rfl)
@[simp] theorem z_intOf (b : Int) : intOf (.int b) = .ok b := (rfl)
@[simp] theorem z_some : fSome F ρ = (F ρ >>= fun d => intOf d >>= fun i => .ok (some i)) := (rfl)
@[simp] theorem z_none : fNone ρ = .ok none := (rfl)
@[simp] theorem z_sl {Fl Fh : Env → Rs (Option Int)} : fSl F Fl Fh ρ = (F ρ >>= fun a => Fl ρ >>= fun l => Fh ρ >>= fun h => slD a l h) := (rfl)
@[simp] theorem z_slL (ds : List PyData) (lo hi : Option Int) : slD (.list ds) lo hi = .ok (.ol (cutP ds lo hi)) := (rfl)
@[simp] theorem z_slT (ds : List PyData) (lo hi : Option Int) : slD (.tuple ds) lo hi = .ok (.sh (.tuple (cutP ds lo hi))) := (rfl)
@[simp] theorem z_seq : fSeq A B ρ = after (A ρ) B := (rfl)
@[simp] theorem z_skip : fSkip ρ = .ok (.nx ρ) := (rfl)
@[simp] theorem z_anx (k : Env → Rs Out) : after (.ok (.nx ρ)) k = k ρ := (rfl)
@[simp] theorem z_art (s : Sl) (k : Env → Rs Out) : after (.ok (.rt s)) k = .ok (.rt s) := (rfl)
@[simp] theorem z_aerr (x : Exn) (k : Env → Rs Out) : after (.err x) k = .err x := (rfl)
@[simp] theorem z_set (i : Nat) : fSet i Fv ρ = (Fv ρ >>= fun s => .ok (.nx (ρ.set i s))) := (rfl)
@[simp] theorem z_ret : fRet Fv ρ = (Fv ρ >>= fun s => .ok (.rt s)) := (rfl)
@[simp] theorem z_retVar (i : Nat) : fRetVar i ρ = (slRet ρ[i]? >>= fun s => .ok (.rt s)) := (rfl)
@[simp] theorem z_slRet (d : PyData) : slRet (some (.sh d)) = .ok (.sh d) := (rfl)
@[simp] theorem z_slReto (d : List PyData) : slRet (some (.ol d)) = .ok (.ol d) := (rfl)
@[simp] theorem z_slRetd (d : List (List Int × PyData)) : slRet (some (.od d)) = .ok (.od d) := (rfl)
@[simp] theorem z_if : fIf Fb A B ρ = (Fb ρ >>= fun b => if b = true then A ρ else B ρ) := (rfl)
@[simp] theorem z_fz (i : Nat) : fFz i A ρ = A (fz1 i ρ) := (rfl)
theorem fz1_eq (i : Nat) (ρ : Env) : fz1 i ρ = match ρ[i]? with
  | some (.ol ds) => ρ.set i (.sh (.list ds))
  | _ => ρ := by
  unfold fz1
  cases ρ[i]? with
  | none => rfl
  | some s => cases s <;> rfl
theorem fz1_sh {i : Nat} {ρ : Env} {d : PyData} (h : ρ[i]? = some (.sh d)) : fz1 i ρ = ρ := by rw [fz1_eq, h]
theorem fz1_ol {i : Nat} {ρ : Env} {ds : List PyData} (h : ρ[i]? = some (.ol ds)) : fz1 i ρ = ρ.set i (.sh (.list ds)) := by rw [fz1_eq, h]
@[simp] theorem z_for {T : Tgt} : fFor Fs T A ρ = (Fs ρ >>= fun ds => forF T A ds ρ) := (rfl)
@[simp] theorem z_it (f : α → Rs (List PyData)) (F : Env → Rs α) : fIt f F ρ = (F ρ >>= f) := (rfl)
@[simp] theorem z_itemsL (ds : List PyData) : itemsL (.list ds) = .ok ds := (rfl)
@[simp] theorem z_itemsT (ds : List PyData) : itemsT (.tuple ds) = .ok ds := (rfl)
@[simp] theorem z_par (i j : Nat) : fPar i j Fs ρ = (Fs ρ >>= fun ds => match ds with
  | [a, b] => .ok (.nx ((ρ.set i (.sh a)).set j (.sh b)))
  | _ => .stuck) := (rfl)
@[simp] theorem z_asg {T : Tgt} : fAsg T F ρ = (F ρ >>= fun d => match T d ρ with
  | some ρ' => .ok (.nx ρ')
  | none => .stuck) := (rfl)
@[simp] theorem z_tgN (i : Nat) (d : PyData) : tgN i d ρ = some (ρ.set i (.sh d)) := (rfl)
@[simp] theorem z_tgNil : tgNil [] ρ = some ρ := (rfl)
@[simp] theorem z_tgCons (T : Tgt) (Ts : Tgts) (d : PyData) (ds : List PyData) : tgCons T Ts (d :: ds) ρ = (T d ρ).bind (Ts ds) := (rfl)
@[simp] theorem z_tgT (n : Nat) (Ts : Tgts) (ds : List PyData) : tgT n Ts (.tuple ds) ρ = if ds.length = n then Ts ds ρ else none := (rfl)
@[simp] theorem z_outN : outV (.ok (.nx ρ)) = .ok (.sh .none) := (rfl)
@[simp] theorem z_outR (s : Sl) : outV (.ok (.rt s)) = .ok s := (rfl)
@[simp] theorem z_outE (x : Exn) : outV (.err x) = .err x := (rfl)
end
/-! the operations -/
@[simp] theorem z_add (a b : Int) : addD (.int a) (.int b) = .ok (.sh (.int (a + b))) := (rfl)
theorem addD_list {xs ys : List PyData} (h : xs.length + ys.length ≤ lim) : addD (.list xs) (.list ys) = .ok (.ol (xs ++ ys)) := if_pos h
theorem addD_tuple {xs ys : List PyData} (h : xs.length + ys.length ≤ lim) : addD (.tuple xs) (.tuple ys) = .ok (.sh (.tuple (xs ++ ys))) := if_pos h
@[simp] theorem z_sub (a b : Int) : subD (.int a) (.int b) = .ok (.int (a - b)) := (rfl)
theorem mulD_ok {a b : Int} (h : mulOk a b) : mulD (.int a) (.int b) = .ok (.int (a * b)) := if_pos h
theorem divD_ok {a b : Int} (h : divOk a b) : divD (.int a) (.int b) = .ok (.int (a.fdiv b)) := if_pos h
theorem modD_ok {a b : Int} (h : b ≠ 0) : modD (.int a) (.int b) = .ok (.int (a.fmod b)) := if_pos h
theorem powD_ok {a b : Int} (h : powOk a b) : powD (.int a) (.int b) = .ok (.int (a ^ b.toNat)) := if_pos h
@[simp] theorem z_lt (a b : Int) : ltD (.int a) (.int b) = .ok (.bool (decide (a < b))) := (rfl)
@[simp] theorem z_le (a b : Int) : leD (.int a) (.int b) = .ok (.bool (decide (a ≤ b))) := (rfl)
@[simp] theorem z_gt (a b : Int) : gtD (.int a) (.int b) = .ok (.bool (decide (b < a))) := (rfl)
@[simp] theorem z_ge (a b : Int) : geD (.int a) (.int b) = .ok (.bool (decide (b ≤ a))) := (rfl)
@[simp] theorem z_neg (a : Int) : negD (.int a) = .ok (.int (-a)) := (rfl)
@[simp] theorem z_abs (a : Int) : absD (.int a) = .ok (.int (if a < 0 then -a else a)) := (rfl)
@[simp] theorem z_lenL (ds : List PyData) : lenD (.list ds) = .ok (.int ds.length) := (rfl)
@[simp] theorem z_lenT (ds : List PyData) : lenD (.tuple ds) = .ok (.int ds.length) := (rfl)
@[simp] theorem z_int1b (b : Bool) : int1D (.bool b) = .ok (.int (if b then 1 else 0)) := (rfl)
@[simp] theorem z_int1 (b : Int) : int1D (.int b) = .ok (.int b) := (rfl)
@[simp] theorem z_listL (ds : List PyData) : listD (.list ds) = .ok (.ol ds) := (rfl)
@[simp] theorem z_listT (ds : List PyData) : listD (.tuple ds) = .ok (.ol ds) := (rfl)
@[simp] theorem z_tupL (ds : List PyData) : tupleD (.list ds) = .ok (.tuple ds) := (rfl)
@[simp] theorem z_tupT (ds : List PyData) : tupleD (.tuple ds) = .ok (.tuple ds) := (rfl)
@[simp] theorem z_min (a b : Int) : min2D (.int a) (.int b) = .ok (.int (if b < a then b else a)) := (rfl)
@[simp] theorem z_max (a b : Int) : max2D (.int a) (.int b) = .ok (.int (if b > a then b else a)) := (rfl)
@[simp] theorem z_isN (a : PyData) : isND a .none = .ok (.bool (isNo a)) := (rfl)
@[simp] theorem z_notN (a : PyData) : notND a .none = .ok (.bool (!isNo a)) := (rfl)
theorem lstD_ok {ds : List PyData} (h : ds.length ≤ lim) : lstD ds = .ok (.ol ds) := if_pos h
theorem tupD_ok {ds : List PyData} (h : ds.length ≤ lim) : tupD ds = .ok (.tuple ds) := if_pos h
@[simp] theorem z_tup1 (a : PyData) : tupD [a] = .ok (.tuple [a]) := tupD_ok (by show 1 ≤ 1000000; decide)
@[simp] theorem z_tup2 (a b : PyData) : tupD [a, b] = .ok (.tuple [a, b]) := tupD_ok (by show 2 ≤ 1000000; decide)
@[simp] theorem z_tup3 (a b c : PyData) : tupD [a, b, c] = .ok (.tuple [a, b, c]) := tupD_ok (by show 3 ≤ 1000000; decide)
@[simp] theorem z_tup0 : tupD [] = .ok (.tuple []) := tupD_ok (by show 0 ≤ 1000000; decide)
@[simp] theorem z_lst0 : lstD [] = .ok (.ol []) := lstD_ok (by show 0 ≤ 1000000; decide)
@[simp] theorem z_lst1 (a : PyData) : lstD [a] = .ok (.ol [a]) := lstD_ok (by show 1 ≤ 1000000; decide)
@[simp] theorem z_lst2 (a b : PyData) : lstD [a, b] = .ok (.ol [a, b]) := lstD_ok (by show 2 ≤ 1000000; decide)
@[simp] theorem z_lst3 (a b c : PyData) : lstD [a, b, c] = .ok (.ol [a, b, c]) := lstD_ok (by show 3 ≤ 1000000; decide)
@[simp] theorem z_lst4 (a b c d : PyData) : lstD [a, b, c, d] = .ok (.ol [a, b, c, d]) := lstD_ok (by show 4 ≤ 1000000; decide)
@[simp] theorem z_eqI (a b : Int) : eqD (.int a) (.int b) = .ok (.bool (a == b)) := (rfl)
@[simp] theorem z_neI (a b : Int) : neD (.int a) (.int b) = .ok (.bool (!(a == b))) := (rfl)
@[simp] theorem z_isiI (a : Int) : isiD "int" (.int a) = .ok (.bool true) := kit_int (.int a)
@[simp] theorem z_isiB (a : Int) : isiD "bool" (.int a) = .ok (.bool false) := kit_bool (.int a)
@[simp] theorem z_isiT (ds : List PyData) : isiD "tuple" (.tuple ds) = .ok (.bool true) := kit_tuple (.tuple ds)
@[simp] theorem z_isiL (ds : List PyData) : isiD "list" (.list ds) = .ok (.bool true) := kit_list (.list ds)
@[simp] theorem z_ixT (ds : List PyData) (i : Int) : ixD (.tuple ds) (.int i) = getP ds i := (rfl)
@[simp] theorem z_ixL (ds : List PyData) (i : Int) : ixD (.list ds) (.int i) = getP ds i := (rfl)
@[simp] theorem z_get0 (a : PyData) (l : List PyData) : getP (a :: l) 0 = .ok a := by
  have h : atI (a :: l) ((0 : Nat) : Int) = some a := atI_nat rfl
  unfold getP
  rw [show (0 : Int) = ((0 : Nat) : Int) from rfl, h]
@[simp] theorem z_get1 (a b : PyData) (l : List PyData) : getP (a :: b :: l) 1 = .ok b := by
  have h : atI (a :: b :: l) ((1 : Nat) : Int) = some b := atI_nat rfl
  unfold getP
  rw [show (1 : Int) = ((1 : Nat) : Int) from rfl, h]
@[simp] theorem z_get2 (a b c : PyData) (l : List PyData) : getP (a :: b :: c :: l) 2 = .ok c := by
  have h : atI (a :: b :: c :: l) ((2 : Nat) : Int) = some c := atI_nat rfl
  unfold getP
  rw [show (2 : Int) = ((2 : Nat) : Int) from rfl, h]
theorem getP_nat {ds : List PyData} {i : Nat} {d : PyData} (h : ds[i]? = some d) : getP ds (i : Int) = .ok d := by
  unfold getP
  rw [atI_nat h]
theorem getP_int {ds : List PyData} {i : Int} {d : PyData} (h0 : 0 ≤ i) (h : ds[i.toNat]? = some d) : getP ds i = .ok d := by
  have e : i = ((i.toNat : Nat) : Int) := by omega
  rw [e]
  exact getP_nat h
@[simp] theorem outV_ret (r : Rs Sl) : outV (r >>= fun s => .ok (.rt s)) = r := by cases r <;> rfl
@[simp] theorem z_p10_5 : powD (.int 10) (.int 5) = .ok (.int 100000) := powD_ok (by decide)
@[simp] theorem z_p10_6 : powD (.int 10) (.int 6) = .ok (.int 1000000) := powD_ok (by decide)
@[simp] theorem z_p10_9 : powD (.int 10) (.int 9) = .ok (.int 1000000000) := powD_ok (by decide)
@[simp] theorem z_p10_10 : powD (.int 10) (.int 10) = .ok (.int 10000000000) := powD_ok (by decide)
@[simp] theorem z_p10_18 : powD (.int 10) (.int 18) = .ok (.int 1000000000000000000) := powD_ok (by decide)
@[simp] theorem z_p10_20 : powD (.int 10) (.int 20) = .ok (.int 100000000000000000000) := powD_ok (by decide)
@[simp] theorem z_p10_30 : powD (.int 10) (.int 30) = .ok (.int 1000000000000000000000000000000) := powD_ok (by decide)
@[simp] theorem z_p10_60 : powD (.int 10) (.int 60) = .ok (.int 1000000000000000000000000000000000000000000000000000000000000) := powD_ok (by decide)
@[simp] theorem z_p10_64 : powD (.int 10) (.int 64) = .ok (.int 10000000000000000000000000000000000000000000000000000000000000000) := powD_ok (by decide)
/-! sizes -/
theorem log2_lt' {a : Int} {n : Nat} (h : a.natAbs < 2 ^ n) (h0 : 0 < n) : a.natAbs.log2 < n := PySem.Flt.log2_lt_of h0 h
theorem mulOk_of {a b : Int} {m n : Nat} (ha : a.natAbs < 2 ^ m) (hb : b.natAbs < 2 ^ n) (h : m + n ≤ 134217000) (h0 : 0 < m) (h1 : 0 < n) : mulOk a b := .inr (.inr (by have := log2_lt' ha h0; have := log2_lt' hb h1; omega))
theorem mulOk_left {a b : Int} (h : a.natAbs < 2 ^ 64) : mulOk a b := .inl (log2_lt' h (by decide))
theorem mulOk_right {a b : Int} (h : b.natAbs < 2 ^ 64) : mulOk a b := .inr (.inl (log2_lt' h (by decide)))
theorem divOk_of {a b : Int} {n : Nat} (h0 : b ≠ 0) (h : b.natAbs < 2 ^ n) (hn : n ≤ 9000) : divOk a b := ⟨h0, PyProof.noPylong_of_log2 (by
  have : b.natAbs.log2 < 9000 := log2_lt' (Nat.lt_of_lt_of_le h (Nat.pow_le_pow_right (by decide) hn)) (by decide)
  exact this)⟩
theorem divOk_lit {a b : Int} (h0 : b ≠ 0) (h : b.natAbs < 2 ^ 64) : divOk a b := divOk_of h0 h (by decide)
theorem fnOf_of {np n : Nat} {F : Env → Rs Out} {ds : List PyData} (h : ds.length = np) : fnOf np n F ds = outV (F (ds.map Sl.sh ++ List.replicate (n - np) Sl.no)) := by
  unfold fnOf
  rw [if_pos h, h]
theorem fnOf1 (n : Nat) (F : Env → Rs Out) (a : PyData) : fnOf 1 n F [a] = outV (F (.sh a :: List.replicate (n - 1) .no)) := if_pos rfl
theorem fnOf2 (n : Nat) (F : Env → Rs Out) (a b : PyData) : fnOf 2 n F [a, b] = outV (F (.sh a :: .sh b :: List.replicate (n - 2) .no)) := if_pos rfl
theorem fnOf3 (n : Nat) (F : Env → Rs Out) (a b c : PyData) : fnOf 3 n F [a, b, c] = outV (F (.sh a :: .sh b :: .sh c :: List.replicate (n - 3) .no)) := if_pos rfl
theorem fnOf4 (n : Nat) (F : Env → Rs Out) (a b c d : PyData) : fnOf 4 n F [a, b, c, d] = outV (F (.sh a :: .sh b :: .sh c :: .sh d :: List.replicate (n - 4) .no)) := if_pos rfl
theorem fnOf5 (n : Nat) (F : Env → Rs Out) (a b c d e : PyData) : fnOf 5 n F [a, b, c, d, e] = outV (F (.sh a :: .sh b :: .sh c :: .sh d :: .sh e :: List.replicate (n - 5) .no)) := if_pos rfl
@[simp] theorem z_rep0 : List.replicate 0 Sl.no = [] := (rfl)
end PF

namespace PF
open PySem L2

/-! ### the greatest divisor, fractions in lowest terms: plain mathematics -/
/-- what divides both, signed as the bottom is -/
def byOf (t b : Int) : Int := if b < 0 then 0 - (Int.gcd t b : Int) else Int.gcd t b
def frT (t b : Int) : Int := t.fdiv (byOf t b)
def frB (t b : Int) : Int := b.fdiv (byOf t b)
def fracD (p q : Int) : PyData := .tuple [.int p, .int q]
def frD (t b : Int) : PyData := fracD (frT t b) (frB t b)
theorem byOf_ne {t b : Int} (h : b ≠ 0) : byOf t b ≠ 0 := by
  have h1 : Int.gcd t b ≠ 0 := fun z => h (Int.gcd_eq_zero_iff.mp z).2
  unfold byOf
  split <;> omega
theorem byOf_dvd_l (t b : Int) : byOf t b ∣ t := by
  unfold byOf
  split
  · rw [Int.zero_sub, Int.neg_dvd]; exact Int.gcd_dvd_left t b
  · exact Int.gcd_dvd_left t b
theorem byOf_dvd_r (t b : Int) : byOf t b ∣ b := by
  unfold byOf
  split
  · rw [Int.zero_sub, Int.neg_dvd]; exact Int.gcd_dvd_right t b
  · exact Int.gcd_dvd_right t b
theorem fdiv_mul_of_dvd {a b : Int} (h : b ∣ a) : a.fdiv b * b = a := Int.fdiv_mul_cancel h
theorem frT_mul (t b : Int) : frT t b * byOf t b = t := fdiv_mul_of_dvd (byOf_dvd_l t b)
theorem frB_mul (t b : Int) : frB t b * byOf t b = b := fdiv_mul_of_dvd (byOf_dvd_r t b)
theorem byOf_abs (t b : Int) : (byOf t b).natAbs = Int.gcd t b := by
  unfold byOf
  split <;> omega
theorem frB_pos {t b : Int} (h : b ≠ 0) : 0 < frB t b := by
  have e := frB_mul t b
  have n := byOf_ne (t := t) h
  have q : byOf t b < 0 ↔ b < 0 := by
    have h1 : Int.gcd t b ≠ 0 := fun z => h (Int.gcd_eq_zero_iff.mp z).2
    unfold byOf
    split <;> omega
  rcases Int.lt_trichotomy (frB t b) 0 with z | z | z
  · rcases Int.lt_or_gt_of_ne n with w | w
    · have := Int.mul_pos_of_neg_of_neg z w
      have := q.mp w
      omega
    · have := Int.mul_neg_of_neg_of_pos z w
      have hb : b < 0 := by omega
      have := q.mpr hb
      omega
  · rw [z, Int.zero_mul] at e
    exact absurd e.symm h
  · exact z
theorem fr_cross {t b : Int} : frT t b * b = t * frB t b := by
  have h1 := frT_mul t b
  have h2 := frB_mul t b
  grind
theorem fr_gcd {t b : Int} (h : b ≠ 0) : Int.gcd (frT t b) (frB t b) = 1 := by
  have e : Int.gcd (frT t b * byOf t b) (frB t b * byOf t b) = Int.gcd (frT t b) (frB t b) * (byOf t b).natAbs := Int.gcd_mul_right _ _ _
  rw [frT_mul, frB_mul, byOf_abs] at e
  have h1 : 0 < Int.gcd t b := Nat.pos_of_ne_zero fun z => h (Int.gcd_eq_zero_iff.mp z).2
  exact (Nat.eq_of_mul_eq_mul_right h1 (by rw [Nat.one_mul]; exact e)).symm
theorem natAbs_le_mul {x y : Int} (h : y ≠ 0) : x.natAbs ≤ (x * y).natAbs := by
  rw [Int.natAbs_mul]
  exact Nat.le_mul_of_pos_right _ (Int.natAbs_pos.mpr h)
theorem frT_le {t b : Int} (h : b ≠ 0) : (frT t b).natAbs ≤ t.natAbs := by
  have := natAbs_le_mul (x := frT t b) (byOf_ne (t := t) h)
  rwa [frT_mul] at this
theorem frB_le {t b : Int} (h : b ≠ 0) : (frB t b).natAbs ≤ b.natAbs := by
  have := natAbs_le_mul (x := frB t b) (byOf_ne (t := t) h)
  rwa [frB_mul] at this
theorem byOf_le {t b : Int} (h : b ≠ 0) : (byOf t b).natAbs ≤ b.natAbs := by
  rw [byOf_abs]
  exact Nat.le_of_dvd (Int.natAbs_pos.mpr h) (Nat.gcd_dvd_right t.natAbs b.natAbs)
/-- the loop of a greatest divisor: state x, y -/
theorem gcd_step (x y : Int) (hy : 0 < y) : Int.gcd y (x.fmod y) = Int.gcd x y := by
  rw [Int.fmod_eq_emod_of_nonneg x (by omega), Int.gcd_comm x y]
  rw [show x % y = x + (-(x / y)) * y by rw [Int.emod_def, Int.neg_mul, Int.mul_comm]; omega]
  exact Int.gcd_add_mul_right_right _ _ _
/-- what the loop body of divisor is to do -/
theorem gcd_loop {C : Env → Rs Bool} {B : Env → Rs Out} (hC : ∀ x y : Int, C [.sh (.int x), .sh (.int y)] = .ok (decide (0 < y)))
    (hB : ∀ x y : Int, 0 < y → B [.sh (.int x), .sh (.int y)] = .ok (.nx [.sh (.int y), .sh (.int (x.fmod y))])) : ∀ (n : Nat) (x y : Int), 0 ≤ x → 0 ≤ y → y.toNat ≤ n → whL C B [.sh (.int x), .sh (.int y)] = .ok (.nx [.sh (.int (Int.gcd x y)), .sh (.int 0)])
  | 0, x, y, hx, hy, hn => by
    have : y = 0 := by omega
    subst this
    rw [whL_eq, hC]
    simp
    omega
  | n + 1, x, y, hx, hy, hn => by
    rw [whL_eq, hC]
    by_cases h : 0 < y
    · simp only [h, decide_true, z_ok, if_pos, hB x y h, z_anx]
      have hm := Int.fmod_nonneg_of_pos x h
      have hl := Int.fmod_lt_of_pos x h
      rw [gcd_loop hC hB n y (x.fmod y) (by omega) hm (by omega), gcd_step x y h]
    · have : y = 0 := by omega
      subst this
      simp
      omega
theorem abs_if (a : Int) : (if a < 0 then -a else a) = (a.natAbs : Int) := by split <;> omega
theorem gcd_abs (a b : Int) : Int.gcd (a.natAbs : Int) (b.natAbs : Int) = Int.gcd a b := by
  unfold Int.gcd
  simp
/-- a loop by an invariant -/
theorem forF_inv {T : Tgt} {B : Env → Rs Out} {ds : List PyData} (I : Nat → Env → Prop) (step : ∀ i d ρ, ds[i]? = some d → I i ρ → ∃ ρ1 ρ2, T d ρ = some ρ1 ∧ B ρ1 = .ok (.nx ρ2) ∧ I (i + 1) ρ2) :
    ∀ (n : Nat) (ρ : Env), n ≤ ds.length → I n ρ → ∃ ρ', forF T B (ds.drop n) ρ = .ok (.nx ρ') ∧ I ds.length ρ' := by
  intro n
  generalize hk : ds.length - n = k
  induction k generalizing n with
  | zero =>
    intro ρ hn hi
    have e : n = ds.length := by omega
    subst e
    exact ⟨ρ, by rw [List.drop_length]; rfl, hi⟩
  | succ k ih =>
    intro ρ hn hi
    have hlt : n < ds.length := by omega
    obtain ⟨ρ1, ρ2, e1, e2, hi2⟩ := step n ds[n] ρ (List.getElem?_eq_getElem hlt) hi
    obtain ⟨ρ', e3, hi3⟩ := ih (n + 1) (by omega) ρ2 hlt hi2
    refine ⟨ρ', ?_, hi3⟩
    rw [List.drop_eq_getElem_cons hlt]
    unfold forF
    rw [e1]
    show after (B ρ1) (forF T B (ds.drop (n + 1))) = _
    rw [e2, after_nx, e3]
theorem for_inv {T : Tgt} {B : Env → Rs Out} {ds : List PyData} {ρ : Env} (I : Nat → Env → Prop) (h0 : I 0 ρ) (step : ∀ i d ρ, ds[i]? = some d → I i ρ → ∃ ρ1 ρ2, T d ρ = some ρ1 ∧ B ρ1 = .ok (.nx ρ2) ∧ I (i + 1) ρ2) :
    ∃ ρ', forF T B ds ρ = .ok (.nx ρ') ∧ I ds.length ρ' := forF_inv I step 0 ρ (Nat.zero_le _) h0
theorem bd_mul {a b : Int} {m n : Nat} (ha : a.natAbs < 2 ^ m) (hb : b.natAbs < 2 ^ n) : (a * b).natAbs < 2 ^ (m + n) := by
  rw [Int.natAbs_mul, Nat.pow_add]
  exact Nat.mul_lt_mul'' ha hb
theorem bd_add {a b : Int} {m : Nat} (ha : a.natAbs < 2 ^ m) (hb : b.natAbs < 2 ^ m) : (a + b).natAbs < 2 ^ (m + 1) := by
  rw [Nat.pow_succ]
  omega
theorem bd_sub {a b : Int} {m : Nat} (ha : a.natAbs < 2 ^ m) (hb : b.natAbs < 2 ^ m) : (a - b).natAbs < 2 ^ (m + 1) := by
  rw [Nat.pow_succ]
  omega
theorem bd_mono {a : Int} {m n : Nat} (ha : a.natAbs < 2 ^ m) (h : m ≤ n) : a.natAbs < 2 ^ n := Nat.lt_of_lt_of_le ha (Nat.pow_le_pow_right (by decide) h)
theorem bd_le {a b : Int} {m : Nat} (h : a.natAbs ≤ b.natAbs) (hb : b.natAbs < 2 ^ m) : a.natAbs < 2 ^ m := Nat.lt_of_le_of_lt h hb
end PF

namespace PF
open PySem L2

/-! ### reckoning rules, continued -/
section
variable {ρ : Env} {F G : Env → Rs PyData} {Fv : Env → Rs Sl} {Fs : Env → Rs (List PyData)} {B : Env → Rs Unit} {i j : Nat}
@[simp] theorem z_isE (f : Nat → Bool) : fIsE i f ρ = isES f ρ[i]? := (rfl)
@[simp] theorem z_isEx (f : Nat → Bool) (c : Nat) (p : Option Int) : isES f (some (.exn ⟨c, p⟩)) = if eOk c then .ok (.bool (f c)) else .stuck := (rfl)
@[simp] theorem z_isEn (f : Nat → Bool) : isES f (some (.sh .none)) = .ok (.bool false) := (rfl)
@[simp] theorem z_eSub (a b : Nat) : eSub a b = (a == b || b == 0) := (rfl)
@[simp] theorem z_drop : fDrop Fv ρ = (Fv ρ >>= fun _ => .ok ()) := (rfl)
theorem z_try : fTry i j B ρ = match B ρ with
  | .ok _ => .ok (.nx ρ)
  | .err x => if eOk x.cls ∧ i < ρ.length then .ok (.nx (((ρ.set i .no).set j (.exn x)).set i .no)) else .stuck
  | .stuck => .stuck := rfl
@[simp] theorem z_place : fPlace i ρ = placeS ρ[i]? := (rfl)
@[simp] theorem z_placeS (p : Int) : placeS (some (.exn ⟨5, some p⟩)) = .ok (.int p) := (rfl)
@[simp] theorem z_noneV : fNoneV i ρ = noneS ρ[i]? := (rfl)
@[simp] theorem z_noneSx (x : Exn) : noneS (some (.exn x)) = .ok (.bool false) := (rfl)
@[simp] theorem z_noneSn : noneS (some (.sh .none)) = .ok (.bool true) := (rfl)
@[simp] theorem z_slRete (x : Exn) : slRet (some (.exn x)) = .ok (.exn x) := (rfl)
@[simp] theorem z_app : fApp i F ρ = (ownL ρ[i]? >>= fun ds => F ρ >>= fun d => appD ds [d] >>= fun ds' => .ok (.nx (ρ.set i (.ol ds')))) := by
  unfold fApp fMut
  simp only [z_cons, z_nil, z_ok]
  cases ownL ρ[i]? with
  | ok ds => simp only [z_ok]; cases F ρ <;> rfl
  | err x => rfl
  | stuck => rfl
@[simp] theorem z_clrF : fClr i ρ = (ownL ρ[i]? >>= fun ds => .ok (.nx (ρ.set i (.ol [])))) := by
  unfold fClr fMut
  cases ownL ρ[i]? <;> rfl
@[simp] theorem z_revF : fRevs i ρ = (ownL ρ[i]? >>= fun ds => .ok (.nx (ρ.set i (.ol ds.reverse)))) := by
  unfold fRevs fMut
  cases ownL ρ[i]? <;> rfl
@[simp] theorem z_setIx : fSetIx i F G ρ = (F ρ >>= fun d => ownL ρ[i]? >>= fun ds => G ρ >>= fun k => setP ds k d >>= fun ds' => .ok (.nx (ρ.set i (.ol ds')))) := (rfl)
theorem setP_nat {ds : List PyData} {k : Nat} {d : PyData} (h : k < ds.length) : setP ds (.int k) d = .ok (ds.set k d) := by
  have e : ixN ds.length (k : Int) = some k := by
    unfold ixN
    simp
    omega
  show (match ixN ds.length (k : Int) with
    | some j => Rs.ok (ds.set j d)
    | none => .stuck) = _
  rw [e]
theorem setP_int {ds : List PyData} {k : Int} {d : PyData} (h0 : 0 ≤ k) (h : k < ds.length) : setP ds (.int k) d = .ok (ds.set k.toNat d) := by
  have e : k = ((k.toNat : Nat) : Int) := by omega
  rw [e, setP_nat (by omega)]
  rfl
@[simp] theorem z_rep (Fb : Env → Rs PyData) : fRep Fv Fb ρ = (Fv ρ >>= fun s => Fb ρ >>= fun k => repD s k) := (rfl)
theorem repD_ok {ds : List PyData} {k : Nat} (h : ds.length * k ≤ lim) (hk : k ≤ lim) : repD (.ol ds) (.int k) = .ok (.ol (List.replicate k ds).flatten) := by
  have hz : (lim : Nat) < 2 ^ 62 := by decide
  unfold repD
  simp only [Int.toNat_natCast]
  rw [if_pos ⟨by omega, by omega, h⟩]
theorem rep_one (k : Nat) (d : PyData) : (List.replicate k [d]).flatten = List.replicate k d := by
  induction k with
  | zero => rfl
  | succ k ih => rw [List.replicate_succ, List.flatten_cons, ih, List.replicate_succ]; rfl
@[simp] theorem z_tgL (n : Nat) (Ts : Tgts) (ds : List PyData) : tgL n Ts (.list ds) ρ = if ds.length = n then Ts ds ρ else none := (rfl)
end
theorem all_truD_int (xs : List Int) : (xs.map PyData.int).all (fun d => (truD d).isSome) = true := by
  rw [List.all_eq_true]
  intro d h
  obtain ⟨i, _, rfl⟩ := List.mem_map.mp h
  rfl
theorem any_tru_int (xs : List Int) : (xs.map PyData.int).any tru = xs.any (fun i => i != 0) := by
  rw [List.any_map]
  rfl
theorem anyD_list (xs : List Int) : anyD (.list (xs.map .int)) = .ok (.bool (xs.any fun i => i != 0)) := by
  rw [← any_tru_int]
  exact if_pos (all_truD_int xs)
theorem anyD_tuple (xs : List Int) : anyD (.tuple (xs.map .int)) = .ok (.bool (xs.any fun i => i != 0)) := by
  rw [← any_tru_int]
  exact if_pos (all_truD_int xs)
/-! slices -/
theorem cutP_init (ds : List PyData) : cutP ds none (some (-1)) = ds.dropLast := by
  unfold cutP
  have e : HT.sIx ds.length ds.length (some (-1)) = ds.length - 1 := by
    show (if (-1 : Int) < 0 then ((-1 : Int) + (ds.length : Int)).toNat else min (-1 : Int).toNat ds.length) = _
    rw [if_pos (by omega)]
    omega
  rw [e, HT.sIx_none, List.drop_zero, Nat.sub_zero, List.dropLast_eq_take]
theorem cutP_take (ds : List PyData) (k : Nat) : cutP ds none (some (k : Int)) = ds.take k := by
  unfold cutP
  rw [HT.sIx_nat, HT.sIx_none, List.drop_zero, Nat.sub_zero]
  by_cases h : k ≤ ds.length
  · rw [Nat.min_eq_left h]
  · rw [Nat.min_eq_right (by omega), List.take_of_length_le (Nat.le_refl _), List.take_of_length_le (by omega)]
theorem cutP_drop (ds : List PyData) (k : Nat) : cutP ds (some (k : Int)) none = ds.drop k := by
  unfold cutP
  rw [HT.sIx_nat, HT.sIx_none, ← List.length_drop, List.take_of_length_le (Nat.le_refl _)]
  by_cases h : k ≤ ds.length
  · rw [Nat.min_eq_left h]
  · rw [Nat.min_eq_right (by omega), List.drop_of_length_le (Nat.le_refl _), List.drop_of_length_le (by omega)]
theorem cutP_mid (ds : List PyData) (a b : Nat) : cutP ds (some (a : Int)) (some (b : Int)) = (ds.drop a).take (b - a) := by
  unfold cutP
  rw [HT.sIx_nat, HT.sIx_nat]
  by_cases h : a ≤ ds.length
  · rw [Nat.min_eq_left h]
    by_cases h2 : b ≤ ds.length
    · rw [Nat.min_eq_left h2]
    · rw [Nat.min_eq_right (by omega), ← List.length_drop, List.take_of_length_le (Nat.le_refl _), List.take_of_length_le (by rw [List.length_drop]; omega)]
  · have e : min a ds.length = ds.length := Nat.min_eq_right (by omega)
    rw [e, List.drop_of_length_le (Nat.le_refl _), List.drop_of_length_le (show ds.length ≤ a by omega)]
    simp
@[simp] theorem ix_last (ds : List PyData) (d : PyData) : getP (ds ++ [d]) (-1) = .ok d := by
  unfold getP
  rw [L2.atI_last]
end PF
namespace PF
open PySem L2
@[simp] theorem z_neB (a b : Bool) : neD (.bool a) (.bool b) = .ok (.bool (!(a == b))) := (rfl)
@[simp] theorem z_eqB (a b : Bool) : eqD (.bool a) (.bool b) = .ok (.bool (a == b)) := (rfl)
@[simp] theorem z_isiBB (a : Bool) : isiD "bool" (.bool a) = .ok (.bool true) := kit_bool (.bool a)
@[simp] theorem z_isiIB (a : Bool) : isiD "int" (.bool a) = .ok (.bool true) := kit_int (.bool a)
theorem pow2_le {m n : Nat} (h : m ≤ n) : (2 : Int) ^ m ≤ 2 ^ n := by
  have := Nat.pow_le_pow_right (n := 2) (by decide) h
  exact_mod_cast this
theorem cutP_all63 (ns : List Int) (h : ns.length ≤ 63) : cutP (ns.map PyData.int) none (some 63) = ns.map .int := by
  rw [show (63 : Int) = ((63 : Nat) : Int) from rfl, cutP_take, List.take_of_length_le (by rw [List.length_map]; exact h)]
end PF
namespace PF
open PySem L2
theorem z_lend (i : Nat) (F : Env → Rs Sl) (ρ : Env) : fLend i F ρ = match ρ[i]? with
  | some (.ol _) => F (fz1 i ρ) >>= lendCk
  | _ => F ρ := (rfl)
theorem lendCk_ok {s : Sl} (h : slFree s = true) : lendCk s = .ok s := if_pos h
@[simp] theorem z_lendSh (d : PyData) : lendCk (.sh d) = if lfree d = true then .ok (.sh d) else .stuck := (rfl)
@[simp] theorem z_lfI (i : Int) : lfree (.int i) = true := by simp [lfree]
@[simp] theorem z_lfB (i : Bool) : lfree (.bool i) = true := by simp [lfree]
@[simp] theorem z_lfN : lfree .none = true := by simp [lfree]
@[simp] theorem z_lfT (ds : List PyData) : lfree (.tuple ds) = lfreeAll ds := by simp [lfree]
@[simp] theorem z_lfA0 : lfreeAll [] = true := by simp [lfreeAll]
@[simp] theorem z_lfA1 (d : PyData) (ds : List PyData) : lfreeAll (d :: ds) = (lfree d && lfreeAll ds) := by simp [lfreeAll]
theorem lfree_ints (xs : List Int) : lfreeAll (xs.map .int) = true := by
  induction xs with
  | nil => simp
  | cons x xs ih => simp [ih]
end PF

namespace PF
open PySem L2

/-! ### loops and comprehensions, reckoned -/
def natD (n : Nat) : PyData := .int (n : Int)
theorem rng1_ok {j : Int} (h : small62 j) : rng1 [.int j] = .ok (rangeD 0 j) := if_pos h
theorem rng2_ok2 {i j : Int} (h : small62 i ∧ small62 j) : rng2 [.int i, .int j] = .ok (rangeD i j) := if_pos h
theorem rng1_nat {n : Nat} (h : n < 2 ^ 60) : rng1 [.int (n : Int)] = .ok ((List.range n).map natD) := by
  have hs : small62 (n : Int) := by unfold small62; omega
  rw [rng1_ok hs]
  unfold rangeD natD
  simp
theorem rng1_int {i : Int} (h0 : 0 ≤ i) (h : i < 2 ^ 60) : rng1 [.int i] = .ok ((List.range i.toNat).map natD) := by
  have e : i = ((i.toNat : Nat) : Int) := by omega
  rw [e, rng1_nat (by omega)]
  rfl
theorem rng2_nat {a n : Nat} (h : n < 2 ^ 60) (ha : a < 2 ^ 60) : rng2 [.int (a : Int), .int (n : Int)] = .ok ((List.range (n - a)).map fun i => natD (a + i)) := by
  have hs : small62 (n : Int) := by unfold small62; omega
  have hs2 : small62 (a : Int) := by unfold small62; omega
  rw [rng2_ok2 ⟨hs2, hs⟩]
  unfold rangeD natD
  have e2 : ((n : Int) - a).toNat = n - a := by omega
  rw [e2]
  congr 1
theorem lcF_of {α : Type} {T : Tgt} {C : Env → Rs Bool} {F : Env → Rs PyData} {ρ0 : Env} (m : α → PyData) (p : α → Bool) (e : α → PyData) : ∀ (xs : List α) (acc : List PyData),
    (∀ x ∈ xs, ∃ ρ1, T (m x) ρ0 = some ρ1 ∧ C ρ1 = .ok (p x) ∧ (p x = true → F ρ1 = .ok (e x))) → acc.length + xs.length ≤ lim → lcF T C F ρ0 (xs.map m) acc = .ok (acc ++ (xs.filter p).map e)
  | [], acc, _, _ => by simp [lcF]
  | x :: xs, acc, h, hl => by
    obtain ⟨ρ1, e1, e2, e3⟩ := h x List.mem_cons_self
    rw [List.length_cons] at hl
    rw [List.map_cons]
    unfold lcF
    rw [e1]
    show (C ρ1 >>= fun b => if b = true then F ρ1 >>= fun y => (if acc.length < lim then lcF T C F ρ0 (xs.map m) (acc ++ [y]) else .stuck) else lcF T C F ρ0 (xs.map m) acc) = _
    rw [e2, z_ok]
    cases hp : p x with
    | true =>
      rw [if_pos rfl, e3 hp, z_ok, if_pos (by omega), lcF_of m p e xs (acc ++ [e x]) (fun y hy => h y (List.mem_cons_of_mem _ hy)) (by rw [List.length_append, List.length_singleton]; omega)]
      rw [List.filter_cons_of_pos hp, List.map_cons, List.append_assoc]
      rfl
    | false =>
      rw [if_neg Bool.false_ne_true, lcF_of m p e xs acc (fun y hy => h y (List.mem_cons_of_mem _ hy)) (by omega), List.filter_cons_of_neg (by rw [hp]; exact Bool.false_ne_true)]
/-- a comprehension -/
theorem lcS_of {α : Type} {S : Env → Rs (List PyData)} {T : Tgt} {C : Env → Rs Bool} {F : Env → Rs PyData} {vs : List Nat} {ρ : Env} (xs : List α) (m : α → PyData) (p : α → Bool) (e : α → PyData) (hS : S ρ = .ok (xs.map m))
    (h : ∀ x ∈ xs, ∃ ρ1, T (m x) (wipeE ρ vs) = some ρ1 ∧ C ρ1 = .ok (p x) ∧ (p x = true → F ρ1 = .ok (e x))) (hl : xs.length ≤ lim) : fLcS S T C F vs ρ = .ok (.ol ((xs.filter p).map e)) := by
  have e1 : fLc S T C F vs ρ = .ok (.ol ((xs.filter p).map e)) := by
    unfold fLc
    rw [hS, ok_bind, lcF_of m p e xs [] h (by simpa using hl)]
    rfl
  unfold fLcS
  rw [e1]
/-- .. without a test -/
theorem lcS_map {α : Type} {S : Env → Rs (List PyData)} {T : Tgt} {F : Env → Rs PyData} {vs : List Nat} {ρ : Env} (xs : List α) (m : α → PyData) (e : α → PyData) (hS : S ρ = .ok (xs.map m))
    (h : ∀ x ∈ xs, ∃ ρ1, T (m x) (wipeE ρ vs) = some ρ1 ∧ F ρ1 = .ok (e x)) (hl : xs.length ≤ lim) : fLcS S T fYes F vs ρ = .ok (.ol (xs.map e)) := by
  have k := lcS_of (C := fYes) xs m (fun _ => true) e hS (fun x hx => by
    obtain ⟨ρ1, a, b⟩ := h x hx
    exact ⟨ρ1, a, rfl, fun _ => b⟩) hl
  rw [k, List.filter_eq_self.mpr fun _ _ => rfl]
/-- a loop whose state is told -/
theorem for_fold {α σ : Type} {T : Tgt} {B : Env → Rs Out} (st : σ → Env) (m : α → PyData) (f : σ → α → σ) (I : σ → Prop) : ∀ (xs : List α) (s : σ), I s → (∀ s a, a ∈ xs → I s → I (f s a) ∧ ∃ ρ1, T (m a) (st s) = some ρ1 ∧ B ρ1 = .ok (.nx (st (f s a)))) →
    forF T B (xs.map m) (st s) = .ok (.nx (st (xs.foldl f s))) ∧ I (xs.foldl f s)
  | [], s, hi, _ => ⟨rfl, hi⟩
  | a :: xs, s, hi, h => by
    obtain ⟨hi2, ρ1, e1, e2⟩ := h s a List.mem_cons_self hi
    have ih := for_fold st m f I xs (f s a) hi2 fun s b hb hi => h s b (List.mem_cons_of_mem _ hb) hi
    refine ⟨?_, ih.2⟩
    rw [List.map_cons]
    unfold forF
    rw [e1]
    show after (B ρ1) (forF T B (xs.map m)) = _
    rw [e2, after_nx]
    exact ih.1
@[simp] theorem wipe_nil (ρ : Env) : wipeE ρ [] = ρ := rfl
end PF

namespace PF
open PySem L2

/-! ### the plain form of a row -/
def gcdF (g x : Int) : Int := Int.gcd g x
def leadF (l x : Int) : Int := if l = 0 then x else l
def gcdL (xs : List Int) : Int := xs.foldl gcdF 0
def leadL (xs : List Int) : Int := xs.foldl leadF 0
def plainBy (xs : List Int) : Int := if leadL xs < 0 then 0 - gcdL xs else gcdL xs
def plainL (xs : List Int) : List Int := xs.map fun x => x.fdiv (plainBy xs)
def plainF (s : Int × Int × Sl) (a : Int) : Int × Int × Sl := (gcdF s.1 a, leadF s.2.1 a, .sh (.int a))
theorem plainF_fold : ∀ (xs : List Int) (s : Int × Int × Sl), ∃ y, xs.foldl plainF s = (xs.foldl gcdF s.1, xs.foldl leadF s.2.1, y)
  | [], s => ⟨s.2.2, rfl⟩
  | a :: xs, s => plainF_fold xs (plainF s a)
theorem gcdF_dvd : ∀ (xs : List Int) (g : Int), (xs.foldl gcdF g ∣ g) ∧ ∀ x ∈ xs, xs.foldl gcdF g ∣ x
  | [], g => ⟨Int.dvd_refl g, fun _ h => nomatch h⟩
  | a :: xs, g => by
    obtain ⟨h1, h2⟩ := gcdF_dvd xs (gcdF g a)
    refine ⟨Int.dvd_trans h1 (Int.gcd_dvd_left g a), fun x hx => ?_⟩
    rcases List.mem_cons.mp hx with rfl | hx
    · exact Int.dvd_trans h1 (Int.gcd_dvd_right g x)
    · exact h2 x hx
theorem gcdF_nonneg : ∀ (xs : List Int) (g : Int), 0 ≤ g → 0 ≤ xs.foldl gcdF g
  | [], _, h => h
  | a :: xs, g, _ => gcdF_nonneg xs (gcdF g a) (by unfold gcdF; omega)
theorem gcdL_dvd {xs : List Int} {x : Int} (h : x ∈ xs) : gcdL xs ∣ x := (gcdF_dvd xs 0).2 x h
theorem gcdL_pos {xs : List Int} (h : ∃ x ∈ xs, x ≠ 0) : 0 < gcdL xs := by
  obtain ⟨x, hx, h0⟩ := h
  have h1 := gcdF_nonneg xs 0 (by decide)
  rcases Int.lt_or_eq_of_le h1 with q | q
  · exact q
  · have d := gcdL_dvd hx
    rw [show gcdL xs = 0 from q.symm] at d
    exact absurd (Int.zero_dvd.mp d) h0
theorem plainBy_ne {xs : List Int} (h : ∃ x ∈ xs, x ≠ 0) : plainBy xs ≠ 0 := by
  have := gcdL_pos h
  unfold plainBy
  split <;> omega
theorem plainBy_dvd {xs : List Int} {x : Int} (h : x ∈ xs) : plainBy xs ∣ x := by
  unfold plainBy
  split
  · rw [Int.zero_sub, Int.neg_dvd]; exact gcdL_dvd h
  · exact gcdL_dvd h
theorem plain_mul {xs : List Int} {x : Int} (h : x ∈ xs) : x.fdiv (plainBy xs) * plainBy xs = x := fdiv_mul_of_dvd (plainBy_dvd h)
theorem plainL_len (xs : List Int) : (plainL xs).length = xs.length := List.length_map _
theorem plain_le {xs : List Int} {x : Int} (hn : ∃ x ∈ xs, x ≠ 0) (h : x ∈ xs) : (x.fdiv (plainBy xs)).natAbs ≤ x.natAbs := by
  have := natAbs_le_mul (x := x.fdiv (plainBy xs)) (plainBy_ne hn)
  rwa [plain_mul h] at this
theorem plain_ne {xs : List Int} {x : Int} (h : x ∈ xs) (h0 : x ≠ 0) : x.fdiv (plainBy xs) ≠ 0 := fun z => by
  have := plain_mul h
  rw [z, Int.zero_mul] at this
  exact h0 this.symm
theorem gcdL_le {xs : List Int} {x : Int} (h : x ∈ xs) (h0 : x ≠ 0) : (gcdL xs).natAbs ≤ x.natAbs := Nat.le_of_dvd (Int.natAbs_pos.mpr h0) (Int.natAbs_dvd_natAbs.mpr (gcdL_dvd h))
theorem plainBy_abs (xs : List Int) : (plainBy xs).natAbs = (gcdL xs).natAbs := by
  unfold plainBy
  split
  · rw [Int.zero_sub, Int.natAbs_neg]
  · rfl
end PF

namespace PF
open PySem L2

/-! ### data that may be compared -/
structure DOk (n : Nat) (d : PyData) : Prop where
  lay : d.canLay0 = true
  dep : d.depth ≤ n
theorem dok_int (i : Int) : DOk 0 (.int i) := ⟨by simp [PyData.canLay0], by simp [PyData.depth]⟩
theorem DOk.mono {m n : Nat} {d : PyData} (h : DOk m d) (hl : m ≤ n) : DOk n d := ⟨h.lay, Nat.le_trans h.dep hl⟩
theorem dokAll {n : Nat} : ∀ {ds : List PyData}, (∀ d ∈ ds, DOk n d) → PyData.canLayAll0 ds = true ∧ PyData.depthAll ds ≤ n
  | [], _ => ⟨by simp [PyData.canLayAll0], by simp [PyData.depthAll]⟩
  | d :: ds, h => by
    obtain ⟨h1, h2⟩ := dokAll (ds := ds) fun x hx => h x (List.mem_cons_of_mem _ hx)
    obtain ⟨h3, h4⟩ := h d List.mem_cons_self
    refine ⟨by simp [PyData.canLayAll0, h1, h3], ?_⟩
    simp only [PyData.depthAll]
    omega
theorem dok_tuple {n : Nat} {ds : List PyData} (h : ∀ d ∈ ds, DOk n d) : DOk (n + 1) (.tuple ds) := by
  obtain ⟨h1, h2⟩ := dokAll h
  refine ⟨by simp only [PyData.canLay0]; exact h1, ?_⟩
  simp only [PyData.depth]
  omega
theorem dok_list {n : Nat} {ds : List PyData} (h : ∀ d ∈ ds, DOk n d) : DOk (n + 1) (.list ds) := by
  obtain ⟨h1, h2⟩ := dokAll h
  refine ⟨by simp only [PyData.canLay0]; exact h1, ?_⟩
  simp only [PyData.depth]
  omega
theorem dok_shaped {d : PyData} (h : DOk 60 d) : SeqAt.shaped d = true := by
  show (d.canLay0 && decide (d.depth ≤ 64)) = true
  rw [Bool.and_eq_true]
  exact ⟨h.lay, decide_eq_true (Nat.le_trans h.dep (by decide))⟩
theorem eqv_self {d : PyData} (h : d.canLay0 = true) : PyData.eqv d d = true := SeqAt.eqv_refl d h
theorem eqD_self {d : PyData} (h : DOk 60 d) : eqD d d = .ok (.bool true) := by
  unfold eqD
  rw [if_pos ⟨dok_shaped h, dok_shaped h⟩, eqv_self h.lay]
theorem neD_self {d : PyData} (h : DOk 60 d) : neD d d = .ok (.bool false) := by
  unfold neD
  rw [if_pos ⟨dok_shaped h, dok_shaped h⟩, eqv_self h.lay]
  rfl
/-- a tuple of ints -/
def TD (xs : List Int) : PyData := .tuple (xs.map .int)
theorem dok_TD (xs : List Int) : DOk 1 (TD xs) := dok_tuple fun d hd => by
  obtain ⟨i, _, rfl⟩ := List.mem_map.mp hd
  exact dok_int i
theorem dok_LTD (s : List (List Int)) : DOk 2 (.list (s.map TD)) := dok_list fun d hd => by
  obtain ⟨i, _, rfl⟩ := List.mem_map.mp hd
  exact dok_TD i
/-- is W among s -/
def hasTD (s : List (List Int)) (W : List Int) : Bool := (s.map TD).any fun z => PyData.eqv z (TD W)
theorem ninD_TD (s : List (List Int)) (W : List Int) : ninD (TD W) (.list (s.map TD)) = .ok (.bool (!hasTD s W)) := by
  have h1 := dok_shaped ((dok_TD W).mono (by decide))
  have h2 := dok_shaped ((dok_LTD s).mono (by decide))
  exact if_pos ⟨h1, h2⟩
theorem inD_TD (s : List (List Int)) (W : List Int) : inD (TD W) (.list (s.map TD)) = .ok (.bool (hasTD s W)) := by
  have h1 := dok_shaped ((dok_TD W).mono (by decide))
  have h2 := dok_shaped ((dok_LTD s).mono (by decide))
  exact if_pos ⟨h1, h2⟩
def addTD (s : List (List Int)) (W : List Int) : List (List Int) := if hasTD s W = true then s else s ++ [W]
theorem addTD_len (s : List (List Int)) (W : List Int) : (addTD s W).length ≤ s.length + 1 := by
  unfold addTD
  split
  · omega
  · rw [List.length_append, List.length_singleton]; omega
@[simp] theorem z_eq00 : neD (.list []) (.list []) = .ok (.bool false) := neD_self ⟨by simp [PyData.canLay0, PyData.canLayAll0], by simp [PyData.depth, PyData.depthAll]⟩
/-! the first that is not nought -/
theorem heads_lead : ∀ (ys : List Int) (l : Int), ys.foldl leadF l = if l = 0 then (ys.filter (fun i => i != 0)).headD 0 else l
  | [], l => by
    by_cases h : l = 0
    · rw [if_pos h]; exact h
    · rw [if_neg h]; rfl
  | y :: ys, l => by
    rw [List.foldl_cons, heads_lead ys]
    unfold leadF
    by_cases h : l = 0
    · rw [if_pos h, if_pos h]
      by_cases hy : y = 0
      · rw [if_pos hy, List.filter_cons_of_neg (by simp [hy])]
      · rw [if_neg hy, List.filter_cons_of_pos (by simp [hy])]
        rfl
    · rw [if_neg h, if_neg h, if_neg h]
theorem lead_init {ys : List Int} {z : Int} (h : ∃ y ∈ ys, y ≠ 0) : ∃ hd tl, ys.filter (fun i => i != 0) = hd :: tl ∧ hd ≠ 0 ∧ leadL (ys ++ [z]) = hd ∧ leadL ys = hd := by
  obtain ⟨y, hy, h0⟩ := h
  have hm : y ∈ ys.filter (fun i => i != 0) := List.mem_filter.mpr ⟨hy, by simpa using h0⟩
  have e := heads_lead ys 0
  cases hf : ys.filter (fun i => i != 0) with
  | nil => rw [hf] at hm; cases hm
  | cons hd tl =>
    have hh : hd ∈ ys.filter (fun i => i != 0) := by rw [hf]; exact List.mem_cons_self
    have hne : hd ≠ 0 := by simpa using (List.mem_filter.mp hh).2
    rw [hf, if_pos rfl] at e
    have e : ys.foldl leadF 0 = hd := e
    refine ⟨hd, tl, rfl, hne, ?_, e⟩
    unfold leadL
    rw [List.foldl_append, e]
    exact if_neg hne
theorem gcd_one {xs : List Int} (h : (1 : Int) ∈ xs) : gcdL xs = 1 := by
  have h1 := gcdL_dvd h
  have h2 := gcdL_pos ⟨1, h, by decide⟩
  exact Int.eq_one_of_dvd_one (by omega) h1
end PF

namespace PF
open PySem L2

/-! ### xs[:c] = ys, ys another list -/
theorem headBounds {c n : Nat} (h : c ≤ n) : sliceBounds none (some (c : Int)) none n = (0, (c : Int), 1) := by
  unfold sliceBounds
  simp only [Option.getD_none, show (1 : Int) > 0 by decide, if_true, show ¬ ((c : Int) < 0) by omega, if_false]
  rw [show max 0 (min (c : Int) (n : Int)) = c by omega]
section
variable {prog : Program} {w : World} {A : Around} {E : Value → Shared → Prop} {s : Shared}
theorem setHead {p b sl : Addr} {its new : Array Value} {n n2 : Nat} {vu : Value} {c : Nat} {Q : Unit → Shared → Prop} (ep : s.heap.get? p = some { cls := .type "list", data := .seq its n }) (eb : s.heap.get? b = some { cls := .type "list", data := .seq new n2 }) (hpb : p ≠ b)
    (es : s.heap.IsSliceOf sl .none vu .none) (pu : IsPart vu (some (c : Int))) (hc : c ≤ its.size) (hz : its.size + new.size ≤ sizeLine) (h : Q () { s with heap := s.heap.update p (Obj.mapSeq fun xs => xs.extract 0 0 ++ new ++ xs.extract c xs.size) }) :
    wpAny (model prog w) A (setItem (.ref p) (.ref sl) (.ref b)) Q E s := by
  have lp : s.heap.IsList p its := PySem.IsL.isList ep
  have lb : s.heap.IsList b new := PySem.IsL.isList eb
  obtain ⟨o, ho, hoc, hod⟩ := id es
  have ts : s.TypeIs (.ref sl) "slice" := ⟨o, ho, hoc⟩
  have ns : Builtin.List.listSameRef (.ref p) (.ref b) = false := by
    unfold Builtin.List.listSameRef
    exact beq_false_of_ne (by first | exact hpb | exact fun z => hpb (Value.ref.inj z))
  have big : ((fun xs : Array Value => xs.extract 0 0 ++ new ++ xs.extract c xs.size) its).size ≤ sizeLine + 1 := by
    simp only [Array.size_append, Array.size_extract]; omega
  have mx : (max (0 : Int) (c : Int)).toNat = c := by omega
  have bd := (sliceIndices_raw none (some (c : Int)) none its.size (by simp)).trans (congrArg (pure : Int × Int × Int → Sem (Int × Int × Int)) (headBounds hc))
  unfold setItem
  refine wpAny_holding (wpAny_bind (wpAny_sequenceKey lp.typeIs (by decide) ?_))
  refine wpAny_bind (wpAny_callSpecial?_slot (name := "__setitem__") lp.typeIs slot_list_setitem (wpAny_call_entry slot_list_setitem lp.typeIs entry_list_setitem ?_ (args_list_setitem _ _ _)))
  show wpAny _ _ (Builtin.List.listSubscript? (.ref sl) >>= _) _ _ s
  unfold Builtin.List.listSubscript?
  refine wpAny_bind (wpAny_bind (wpAny_specialOf ts slice_no_index ?_))
  simp only [Option.isNone_none, if_true]
  refine wpAny_pure ?_
  show wpAny _ _ (typeOf (.ref sl) >>= _) _ _ s
  refine wpAny_bind (wpAny_typeOf ts ?_)
  rw [if_neg (by decide), listSliceParts_eq]
  refine wpAny_bind (wpAny_bind (wpAny_field ho hod (x := .none) rfl (wpAny_bind (wpAny_listPart (k := none) .none ?_))))
  rw [if_neg (show ¬ ((rawPart none == rawInt 0) = true) from Bool.false_ne_true)]
  refine wpAny_bind (wpAny_field ho hod (x := .none) rfl (wpAny_bind (wpAny_listPart (k := none) .none (wpAny_bind (wpAny_field ho hod (x := vu) rfl (wpAny_bind (wpAny_listPart pu (wpAny_pure ?_))))))))
  dsimp only
  rw [if_neg (by rw [ns]; exact Bool.false_ne_true)]
  refine wpAny_bind (m := Builtin.List.listAllItems (.ref b) _) ?_
  unfold Builtin.List.listAllItems
  refine wpAny_bind (wpAny_typeOf lb.typeIs ?_)
  rw [if_pos (by decide)]
  unfold Builtin.List.listItems
  refine wpAny_bind (wpAny_seqItems eb rfl (wpAny_pure (wpAny_bind (wpAny_bind (wpAny_seqItems ep rfl (wpAny_pure (wpAny_bind (wpAny_of_eq bd ?_))))))))
  show wpAny _ _ (if ((1 : Int) == 1) = true then _ else _) _ _ s
  rw [if_pos (by decide)]
  refine wpAny_bind (wpAny_rule ?_)
  simp only [notLongL hz, Bool.false_eq_true, if_false]
  first | refine wpAny_bind (wpAny_pure ?_) | skip
  show wpAny _ _ (updateSeq p (fun xs => xs.extract 0 0 ++ new ++ xs.extract (max (0 : Int) (c : Int)).toNat xs.size) >>= _) _ _ s
  rw [mx]
  refine wpAny_bind (wpAny_updateSeq (hz := Nat.le_trans (Nat.le_add_right _ _) hz) (_hz' := big) ep rfl (wpAny_bind (wpAny_letGo ?_)))
  first | exact wpAny_bind (wpAny_pure (wpAny_pure ⟨.none, rfl, wpAny_pure h⟩)) | exact wpAny_pure ⟨.none, rfl, wpAny_pure h⟩
end
def gHead (to : TE) (tl th : TO) : TG := fun v σ H Q => to σ H fun o H1 => tl σ H1 fun l H2 => th σ H2 fun u H3 => ∃ (p b : Addr) (xs ys : List V) (c : Nat), l = none ∧ o = .ref p ∧ v = .ref b ∧ u = some (c : Int) ∧ p ≠ b ∧ H3 p = some (.lst xs) ∧ H3 b = some (.lst ys) ∧ c ≤ xs.length ∧
  xs.length + ys.length ≤ sizeLine ∧ Q σ (upd H3 p (.lst (ys ++ xs.drop c)))
theorem pg_head {X : Cx} {o : Expr} {hi : Option Expr} {to : TE} {tl th : TO} {p2 pos : Pos} (ho : PE X o to) (hl : PO X none tl) (hh : PO X hi th) : PG X (.Subscript o (.Slice none hi none p2) pos) (gHead to tl th) := by
  refine ⟨fun pins s σ H v u Q I r h => ?_⟩
  show wpAny _ _ (do
      let ov ← holding [u] (eval o X.env)
      let iv ← holding [u, ov] (eval (.Slice none hi none p2) X.env)
      standAt pos
      holding [u, ov, iv] (setItem ov iv u)
      release [iv, u, ov] []) _ _ _
  refine wpAny_bind (wpAny_holding (thn (ho.run pins s σ H _ I h) fun ov s1 ⟨x, H1, I1, r1, q1⟩ => ?_))
  refine wpAny_bind (wpAny_holding (wpAny_Slice (thn (hl.run pins s1 σ H1 _ I1 q1) fun vl s2 ⟨l, H2, I2, pl, q2⟩ => thn (hh.run pins s2 σ H2 _ I2 q2) fun vu s3 ⟨w, H3, I3, pu, q3⟩ => ?_)))
  rw [evalPart_none]
  refine wpAny_pure ?_
  obtain ⟨p, b, xs, ys, c, rfl, rfl, rfl, rfl, hne, hp, hb, hc, hz, q⟩ := q3
  cases pl
  cases (show ov = Value.ref p from r1)
  cases (show u = Value.ref b from r)
  have I4 : Inv X pins σ H3 { s3 with heap := s3.heap.push { cls := .type "slice", data := .fields #[.none, vu, .none] } } := I3.kept (t' := s3.toks) fun b ob q => Heap.get?_push_of_some _ q
  refine wpAny_bind (wpAny_standAt (wpAny_bind (wpAny_holding ?_)))
  obtain ⟨z, its, n, rv, hlx, e⟩ := I4.lstM hp
  obtain ⟨z2, its2, n2, rv2, hlx2, e2⟩ := I4.lstM hb
  refine setHead (c := c) e e2 hne (Heap.IsSliceOf.new ..) pu (by rw [List.size_toArray]; omega) (by rw [List.size_toArray, List.size_toArray]; omega) (wpAny_release ⟨σ, upd H3 p (.lst (ys ++ xs.drop c)), ?_, q⟩)
  refine I4.lset (its' := its2 ++ its.drop c) (t' := s3.toks) hp e ?_ (Vals.append rv2 (rv.drop _)) ?_
  · have := splice_eq its its2 0 c
    rw [List.take_zero, List.nil_append] at this
    exact this
  · rw [List.length_append, List.length_drop]
    omega
/-- xs[:c] = ys -/
def headP (s : Sl) (ds : List PyData) (o : Option Int) : Rs (List PyData) := match s, o with
  | .ol es, some c => if 0 ≤ c ∧ c ≤ ds.length ∧ ds.length + es.length ≤ lim then .ok (es ++ ds.drop c.toNat) else .stuck
  | _, _ => .stuck
def fHead (i : Nat) (Fv : Env → Rs Sl) (Fh : Env → Rs (Option Int)) : Env → Rs Out := fun ρ => Fv ρ >>= fun s => ownL ρ[i]? >>= fun ds => Fh ρ >>= fun o => headP s ds o >>= fun ds' => .ok (.nx (ρ.set i (.ol ds')))
section
variable {ca : Nat → Addr} {X : Cx} {E : XK}
theorem jp_head (i : Nat) {v : Expr} {hi : Option Expr} {x : Str} {p apos p2 pos : Pos} {tv : TE} {th : TO} {Fv : Env → Rs Sl} {Fh : Env → Rs (Option Int)} (hv : JV ca X E v tv Fv) (hx : PE X (.Name x p) (tVar i)) (hh : JO ca X E hi th Fh)
    (hs : swapsWithSole [.Subscript (.Name x p) (.Slice none hi none p2) apos] v pos.line X.env = pure false := by rfl) (hw : swappedStores [.Subscript (.Name x p) (.Slice none hi none p2) apos] v X.env = pure none := by rfl) :
    JP ca X E (.Assign [.Subscript (.Name x p) (.Slice none hi none p2) apos] v pos) (tAsg tv (gHead (tVar i) tNoPart th)) (fHead i Fv Fh) := by
  refine ⟨ps_asg hv.pe (pg_head hx po_none hh.po) hs hw, fun G0 H0 G H ρ σ rep en hns D nx rt er => ?_⟩
  refine hv.sem.use rep hns (fun x e G' H' cl dd n => er x e G' H' cl dd (en.nx.trans n)) fun s es e1 G1 H1 u n1 r1 q1 h1 er1 => ?_
  have nx0 : ∀ ρ', (ownL ρ[i]? >>= fun ds => Fh ρ >>= fun o => headP s ds o >>= fun ds' => (.ok (.nx (ρ.set i (.ol ds'))) : Rs Out)) = .ok (.nx ρ') → ∀ G' H' σ', Rep ⟨X.K, ca⟩ G' H' ρ' σ' → Ent G0 H0 G' H' ρ' σ' → D.nx σ' H' := fun ρ' e => nx ρ' (e1.trans e)
  replace nx := nx0
  obtain ⟨ds, hs⟩ := ownL_ok h1
  have e0 : (ownL ρ[i]? >>= fun ds => Fh ρ >>= fun o => headP s ds o >>= fun ds' => (.ok (.nx (ρ.set i (.ol ds'))) : Rs Out)) = (Fh ρ >>= fun o => headP s ds o >>= fun ds' => (.ok (.nx (ρ.set i (.ol ds'))) : Rs Out)) := by rw [hs]; rfl
  rw [e0] at h1 er1 nx
  obtain ⟨o, e2, pp, xs, rfl, gp, hp, qq⟩ := r1.sl i _ hs
  refine ⟨.ref pp, e2, ?_⟩
  show th σ H1 _
  refine hh.sem.use r1 h1 er1 fun kd ek e3 G2 H2 w n2 r2 q2 h2 er2 => ?_
  rw [e3] at nx
  obtain ⟨o', e4, p', xs', z, gp2, hp2, qq2⟩ := r2.sl i _ hs
  rw [e2] at e4
  cases e4
  cases z
  unfold headP at h2 nx
  split at h2
  · rename_i es' c
    split at h2
    · rename_i hc
      obtain ⟨b, ys, rfl, hb0, gb, hb, qb⟩ := q1
      have hl := DpAll.length qq2
      have hl2 := DpAll.length qb
      cases (show w = some c from q2)
      have hne : pp ≠ b := fun z => by
        have r0 := rep.sl i _ hs
        obtain ⟨o0, f1, p0, x0, f2, f3, f4, f5⟩ := r0
        rw [e2] at f1
        cases f1
        cases f2
        rw [z, hb0] at f4
        cases f4
      refine ⟨pp, b, xs', ys, c.toNat, rfl, rfl, rfl, by rw [show ((c.toNat : Nat) : Int) = c by omega], hne, hp2, n2.h _ _ hb, by omega, lim_le (by rw [hl, hl2]; exact hc.2.2), ?_⟩
      obtain ⟨r3, n3⟩ := mut_ol r2 ((en.go n1).go n2) hs e2 gp2 hp2 (DpAll.append (DpAll.ex n2.g qb) (DpAll.drop c.toNat qq2))
      exact nx _ (by simp only [hc]; rfl) G2 _ σ r3 n3
    · exact absurd rfl h2
  · exact absurd rfl h2
end
theorem headP_ok {es ds : List PyData} {c : Nat} (h : c ≤ ds.length) (hl : ds.length + es.length ≤ lim) : headP (.ol es) ds (some (c : Int)) = .ok (es ++ ds.drop c) := if_pos ⟨by omega, by omega, hl⟩
@[simp] theorem z_head (i : Nat) (Fv : Env → Rs Sl) (Fh : Env → Rs (Option Int)) (ρ : Env) : fHead i Fv Fh ρ = (Fv ρ >>= fun s => ownL ρ[i]? >>= fun ds => Fh ρ >>= fun o => headP s ds o >>= fun ds' => .ok (.nx (ρ.set i (.ol ds')))) := (rfl)
end PF

namespace PF
open PySem L2

/-! ### recursion: a def's promise by fuel; without fuel it promises nothing -/
theorem callee_stuck {P : Program} {w : World} {K : PySem.W.Frag} {mg : Str → Option Value} {base : Heap} {ca : Nat → Addr} {x qual y : Str} {st : Stmt} {f : Addr} {fd : FuncData} {ps : List Str} {np : Nat} (k : Nat) (Fu : Fun K y qual st f fd)
    (hm : mg x = some (.ref f)) (hb : Binds K fd ps []) : Callee P w K mg base ca x k (fun _ => .stuck) np :=
  ⟨⟨f, fd, ps, ⟨fun vs H Q E h => by
      obtain ⟨_, _, _, _, _, h, _⟩ := h
      exact absurd rfl h, fun A outer s H args us vs Q E _ _ _ _ h => by
      obtain ⟨_, _, _, _, _, h, _⟩ := h
      exact absurd rfl h⟩, hm, Fu.kp, hb⟩, fun ds h => absurd rfl h⟩
/-! ### walked: a list or a tuple -/
def iMix (K : PySem.W.Frag) (tl : TE) : TI := fun σ H R => tl σ H fun x H1 => ∃ a, x = .ref a ∧ (((∃ xs, SqL K H1 a xs) ∧ R (Itl K a) H1) ∨ ((∃ xs, SqT K H1 a xs) ∧ R (Itt K a) H1))
theorem pi_mix {X : Cx} {tg l : Expr} {tl : TE} (hl : PE X l tl) : PI X tg l (iMix X.K tl) := by
  refine ⟨fun pins s σ H R I h => ?_⟩
  refine thn (hl.run pins s σ H _ I h) fun v s1 ⟨x, H1, I1, r1, q1⟩ => ?_
  obtain ⟨a, e, q1⟩ := q1
  subst e
  cases r1
  have own : ∀ b ∈ [s1.heap.objs.size], b = s1.heap.objs.size := fun b hb => by simpa using hb
  rcases q1 with ⟨⟨xs, hq⟩, q⟩ | ⟨⟨xs, hq⟩, q⟩
  · obtain ⟨its, rv, p, hz⟩ := I1.list hq
    refine wpAny_pyIter_list p.isList ?_
    refine ⟨s1.heap.objs.size, [s1.heap.objs.size], _, _, H1, rfl, I1.kept (t' := s1.toks) fun b o e => Heap.get?_push_of_some _ e, turn_list a _, ⟨_, Heap.get?_push_size _ rfl, rfl, rfl⟩, fun b hb => ?_, q⟩
    have e := own b hb
    subst e
    exact I1.fpOk (Nat.le_refl _) (I1.hok.fresh (Nat.le_refl _))
  · obtain ⟨its, rv, p, hz⟩ := I1.tuple hq
    refine wpAny_pyIter_tuple (show s1.heap.IsTuple a its.toArray from p) ?_
    refine ⟨s1.heap.objs.size, [s1.heap.objs.size], _, _, H1, rfl, I1.kept (t' := s1.toks) fun b o e => Heap.get?_push_of_some _ e, turn_tuple a _, ⟨_, Heap.get?_push_size _ rfl, rfl, rfl⟩, fun b hb => ?_, q⟩
    have e := own b hb
    subst e
    exact I1.fpOk (Nat.le_refl _) (I1.hok.fresh (Nat.le_refl _))
def itemsM : PyData → Rs (List PyData)
  | .list ds => .ok ds
  | .tuple ds => .ok ds
  | _ => .stuck
@[simp] theorem z_itemsM_l (ds : List PyData) : itemsM (.list ds) = .ok ds := (rfl)
@[simp] theorem z_itemsM_t (ds : List PyData) : itemsM (.tuple ds) = .ok ds := (rfl)
theorem ji_mix {ca : Nat → Addr} {X : Cx} {E : XK} {e tg : Expr} {te : TE} {F : Env → Rs PyData} {b : Bool} (h : JS ca X E e te F) : JI ca X E b tg e (iMix X.K te) (fIt itemsM F) :=
  ⟨pi_mix h.pe, fun G H ρ σ rep hns R ok er => h.sem.use rep hns er fun d ed e1 G' H' v n r q hk _ => by
    cases d with
    | list ds =>
      obtain ⟨a, xs, rfl, hx, ax⟩ := Dp.list_v q
      exact ⟨a, rfl, .inl ⟨⟨xs, Ex.sql n.gh hx⟩, ok ds e1 G' H' _ n (walkd_same _ _ (fun G2 H2 z1 z2 _ => Ex.sql z2 (Ex.sql z1 hx)) ax walk_list fun i H x H' y => y)⟩⟩
    | tuple ds =>
      obtain ⟨a, xs, rfl, hx, ax⟩ := Dp.tuple_v q
      exact ⟨a, rfl, .inr ⟨⟨xs, Ex.sqt n.gh hx⟩, ok ds e1 G' H' _ n (walkd_same _ _ (fun G2 H2 z1 z2 _ => Ex.sqt z2 (Ex.sqt z1 hx)) ax walk_tup fun i H x H' y => y)⟩⟩
    | none => exact absurd rfl hk
    | bool _ => exact absurd rfl hk
    | int _ => exact absurd rfl hk
    | _ => exact absurd rfl hk⟩
end PF

namespace L2
namespace RT
open PySem PySem.Spec PyProof.Rows _root_.RT
section
variable {prog : Program} {w : World} {A : Around} {E : Value → Shared → Prop} {s : Shared}
theorem init_list_rev {it l : Addr} {items : Array Value} {R : Result → Shared → Prop} (hh : A.handled = none) (hit : s.heap.IsRevIter it l ((items.size : Int) - 1)) (hl : s.heap.IsList l items) (hne : l ≠ it) (hn : items.size ≤ sizeLine)
    (S : Addr) (hS : s.heap.get? S = some { cls := .type "list", data := .seq #[] })
    (hR : ∀ (h' : Heap) (tk : Nat) (acc : Array Value) (c' : Nat), (∀ b o, b ≠ S → b ≠ it → s.heap.get? b = some o → h'.get? b = some o) → h'.get? S = some { cls := .type "list", dict := none, data := .seq acc c', slots := #[] } → ItemsOf (fun i v => items[items.size - 1 - i]? = some v) acc items.size →
      R (.ok (.ret .none)) { s with heap := h', toks := tk }) (hSi : S ≠ it) (hSl : S ≠ l) :
    wpAny (model prog w) A.in1 (Builtin.«list.__init__» ⟨[.ref S, .ref it], []⟩)
      (fun fin s' => match fin with | .done f => R (.ok f) s' | .again c' => c'.quiet = true ∧ codeAny (model prog w) A c' R s') (fun e s' => R (.error e) s') s := by
  have W := (Walks.listRev (prog := prog) (w := w) (A := A.in1) hh it l hne items).toS
  have hSf : S ∉ [it, l] := by simp only [List.mem_cons, List.not_mem_nil, or_false, not_or]; exact ⟨hSi, hSl⟩
  show wpAny _ _ (do let old ← Builtin.List.listItems (.ref S); Builtin.List.listUpdate (.ref S) (fun _ => #[]); letGo old.toList.reverse; Builtin.List.listExtendWith (.ref S) (.ref it) .none) _ _ s
  refine wpAny_bind ?_
  unfold Builtin.List.listItems
  refine wpAny_bind (wpAny_seqItems hS rfl (wpAny_pure ?_))
  show wpAny _ _ (updateSeq S (fun _ => #[]) >>= fun _ => letGo (#[] : Array Value).toList.reverse >>= fun _ => Builtin.List.listExtendWith (.ref S) (.ref it) .none) _ _ s
  refine wpAny_bind (wpAny_updateSeq hS rfl ?_)
  have hS₁ := Heap.get?_update_self (Obj.mapSeq (fun _ => (#[] : Array Value))) hS rfl
  have oth : ∀ b o, b ≠ S → s.heap.get? b = some o → (s.heap.update S (Obj.mapSeq (fun _ => (#[] : Array Value)))).get? b = some o :=
    fun b o hb e => (Heap.get?_update_other _ _ (Ne.symm hb)).trans e
  refine wpAny_bind (wpAny_letGo ?_)
  have hit1 : (s.heap.update S (Obj.mapSeq (fun _ => (#[] : Array Value)))).IsRevIter it l ((items.size : Int) - 1) := hit.at fun o e => oth it o (Ne.symm hSi) e
  have hl1 : (s.heap.update S (Obj.mapSeq (fun _ => (#[] : Array Value)))).IsList l items := by
    obtain ⟨o, ho, q⟩ := hl
    exact ⟨o, oth l o (Ne.symm hSl) ho, q⟩
  have hT : ({ s with heap := s.heap.update S (Obj.mapSeq (fun _ => (#[] : Array Value))) } : Shared).TypeIs (.ref it) "list_reverseiterator" := Heap.IsRevIter.typeIs (s := { s with heap := s.heap.update S (Obj.mapSeq (fun _ => (#[] : Array Value))) }) hit1
  have h1 : Builtin.List.listSameRef (.ref S) (.ref it) = false := by simp [Builtin.List.listSameRef, hSi]
  unfold Builtin.List.listExtendWith
  refine wpAny_bind (wpAny_typeOf hT ?_)
  rw [if_neg (by rw [h1]; decide)]
  refine wpAny_bind (wpAny_pyIter_revIter (s := { s with heap := s.heap.update S (Obj.mapSeq (fun _ => (#[] : Array Value))) }) hit1 ?_)
  refine wpAny_bind (wpAny_holding ?_)
  unfold Builtin.List.listLengthHint
  refine wpAny_bind (wpAny_specialOf hT nolen_lri ?_)
  show wpAny _ A.in1 (specialOf (Value.ref it) (Str.ofString "__length_hint__") >>= _) _ _ _
  refine wpAny_bind (wpAny_specialOf hT hint_lri ?_)
  generalize hid : ("list_reverseiterator.__length_hint__" : String) = id0
  wp_delta
  rw [show splitId id0 = some ("list_reverseiterator", "__length_hint__") from by subst hid; decide +kernel]
  subst hid
  refine wpAny_bind (wpAny_isInstance (b := true) hT (by rw [isSubtype_type]; kernel_rfl) ?_)
  refine wpAny_pure ?_
  rw [if_neg (by decide)]
  have e0 : ((items.size : Nat) : Int) - 1 - ((0 : Nat) : Int) = (items.size : Int) - 1 := by omega
  refine wpAny_pure ⟨plainId_quiet F.plain_extend_loop _, codeAny_extend_loopS W hn _ hSf _ items.size 0 _ _ _ rfl (Nat.zero_le _) ⟨Nat.zero_le _, by rw [e0]; exact hit1, hl1⟩ hS₁ (ItemsOf.nil _) fun s' acc' c' hm hS' hacc => ?_⟩
  rw [Moved.eq_with hm]
  refine hR s'.heap s'.toks acc' c' (fun b o hb hb2 e => hm.heap b o (fun hmem => ?_) (oth b o hb e)) hS' hacc
  rcases List.mem_cons.mp hmem with e' | hmem
  · exact hb e'
  · exact hb2 (by simpa using hmem)
theorem call_list_rev {it l : Addr} {items : Array Value} {Q : Value → Shared → Prop} (hh : A.handled = none) (hit : s.heap.IsRevIter it l ((items.size : Int) - 1)) (hl : s.heap.IsList l items) (hne : l ≠ it) (hn : items.size ≤ sizeLine)
    (hQ : ∀ (h' : Heap) (tk : Nat) (acc : Array Value) (c' : Nat), (∀ b o, b ≠ it → s.heap.get? b = some o → h'.get? b = some o) → h'.get? s.heap.objs.size = some { cls := .type "list", dict := none, data := .seq acc c', slots := #[] } →
      ItemsOf (fun i v => items[items.size - 1 - i]? = some v) acc items.size → Q (.ref s.heap.objs.size) { s with heap := h', toks := tk }) :
    wpAny (model prog w) A (call (.type "list") [.ref it]) Q E s := by
  refine callType_codes (Q₁ := fun obj s₁ => obj = .ref s.heap.objs.size ∧ s₁ = { s with heap := s.heap.push { cls := .type "list", data := .seq #[] } }) F.called_list (F.typeCall_list_1 _) F.entry_list_init
    (code_list_new _ ⟨rfl, rfl⟩) fun obj s₁ h₁ => ?_
  obtain ⟨rfl, rfl⟩ := h₁
  have hS : (s.heap.push { cls := .type "list", data := .seq #[] }).get? s.heap.objs.size = some { cls := .type "list", data := .seq #[] } := Heap.get?_push_size _ rfl
  obtain ⟨oi, hoi, _⟩ := id hit
  obtain ⟨ol, hol, _⟩ := id hl
  have hit1 : (s.heap.push { cls := .type "list", data := .seq #[] }).IsRevIter it l ((items.size : Int) - 1) := hit.at fun o e => Heap.get?_push_of_some _ e
  refine ⟨⟨_, hS, rfl⟩, F.args_list_init_2 _ _, init_list_rev (A := A.in1) (s := { s with heap := s.heap.push { cls := .type "list", data := .seq #[] } }) hh hit1 (hl.push _) hne hn _ hS (fun h' tk acc' c' hk hS' hacc => ?_) (Nat.ne_of_gt (Heap.lt_size hoi)) (Nat.ne_of_gt (Heap.lt_size hol))⟩
  exact ⟨rfl, hQ h' tk acc' c' (fun b o hb e => hk b o (Nat.ne_of_lt (Heap.lt_size e)) hb (Heap.get?_push_of_some _ e)) hS' hacc⟩
end
/-- list(reversed(x)), x a list: a new list -/
def tLstRev (K : PySem.W.Frag) (te : TE) : TE := fun σ H Q => te σ H fun v H1 => ∃ (a : Addr) (xs : List V), v = .ref a ∧ SqL K H1 a xs ∧ ∀ q, H1 q = none → Q (.ref q) (upd H1 q (.lst xs.reverse))
section
variable {X : Cx}
theorem pe_lstRev {e : Expr} {te : TE} {p p2 pos pos2 : Pos} (hc : X.calm = true) (hg : Gl X "list") (hm : X.mg "list" = none) (hg2 : Gl X "reversed") (hm2 : X.mg "reversed" = none) (he : PE X e te)
    (hs : starEach [e] X.env = (false, eval e X.env) :: starEach [] X.env := by rfl)
    (hs2 : starEach [.Call (.Name "reversed" p2) [e] [] pos2] X.env = (false, eval (.Call (.Name "reversed" p2) [e] [] pos2) X.env) :: starEach [] X.env := by rfl) :
    PE X (.Call (.Name "list" p) [.Call (.Name "reversed" p2) [e] [] pos2] [] pos) (tLstRev X.K te) := by
  refine ⟨fun pins s σ H Q I h => ?_⟩
  refine Call_ (ld_blt I hg hm boot_list (PyProof.Rows.callWith_type1 (args_cons (Call_ (ld_blt I hg2 hm2 PyProof.Rows.boot_reversed (PyProof.Rows.callWith_type1 (args_cons (thn (he.run pins s σ H _ I h) fun u s1 ⟨v, H1, I1, r1, q1⟩ => args_nil ?_) hs) hs rfl))) hs2) hs2 rfl))
  obtain ⟨a, xs, ev, hq, q⟩ := q1
  subst ev
  obtain rfl : u = Value.ref a := r1
  obtain ⟨its, rv, p', hz⟩ := I1.list hq
  refine call_reversed_list p'.isList (args_nil ?_)
  have k0 : ∀ b o, s1.heap.get? b = some o → (s1.heap.push (revObj a ((its.toArray.size : Int) - 1))).get? b = some o := fun b o e => Heap.get?_push_of_some _ e
  have I2 : Inv X pins σ H1 { s1 with heap := s1.heap.push (revObj a ((its.toArray.size : Int) - 1)) } := I1.kept (t' := s1.toks) k0
  obtain ⟨f0, f1, f2, f3, f4, f5⟩ := I1.fpOk (H' := H1) (b := s1.heap.objs.size) (Nat.le_refl _) (I1.hok.fresh (Nat.le_refl _))
  have hl := p'.isList
  obtain ⟨ol, hol, _⟩ := id hl
  have hne : a ≠ s1.heap.objs.size := Nat.ne_of_lt (Heap.lt_size hol)
  have hn : its.toArray.size ≤ sizeLine := by rw [List.size_toArray, ← rv.length]; exact hz
  refine call_list_rev (s := { s1 with heap := s1.heap.push (revObj a ((its.toArray.size : Int) - 1)) }) (I1.ok.hd hc) ⟨_, Heap.get?_push_size _ rfl, rfl, rfl⟩ (hl.push _) hne hn fun h' tk acc c' hk e' hi => ?_
  have hn2 : H1 s1.heap.objs.size = none := I1.hok.fresh (Nat.le_refl _)
  have I3 := I2.turnedNew (h' := h') (t' := tk) (ch := [s1.heap.objs.size]) (ob := .lst xs.reverse) (fun b o hb e => hk b o (fun z => hb (by simp [z])) e)
    (fun b hb => by have hb : b = s1.heap.objs.size := by simpa using hb
                    subst hb; exact ⟨f0, f1, f2, f3, f4, f5⟩) (Nat.le_refl _)
    (show ObjOk X.prog X.w _ _ _ (.lst xs.reverse) from ⟨by rw [List.length_reverse]; exact hz, acc.toList, c', vals_rev rv hi, by rw [Array.toArray_toList]; exact e'⟩)
  exact ⟨.ref _, _, I3, rfl, q _ (I2.hok.fresh (Nat.le_refl _))⟩
end
end RT
end L2
namespace PF
open PySem L2
/-! ### o.count(k), o a list of numbers -/
def cntD (ds : List PyData) (d : PyData) : Rs PyData := intOf d >>= fun k => intsOf ds >>= fun is => .ok (.int (is.count k : Nat))
def fCnt (Fa Fb : Env → Rs PyData) : Env → Rs PyData := fun ρ => Fa ρ >>= fun a => itemsL a >>= fun ds => Fb ρ >>= fun b => cntD ds b
theorem sem_cnt {c : Pc} {E : XK} {ta tb : TE} {Fa Fb : Env → Rs PyData} (ha : SemG c E ta Fa (RB c)) (hb : SemG c E tb Fb (RB c)) : SemG c E (tBM c.K "list" (rCntI c.K) ta (tCons tb tNil)) (fCnt Fa Fb) (RS c) := by
  intro G H ρ σ rep hns Q ok er
  refine ha.use rep hns er fun a ea e1 G1 H1 x n1 r1 q1 h1 er1 => ?_
  cases a with
  | list ds =>
    obtain ⟨p, xs, rfl, hx, ax⟩ := db_list n1.gh q1
    refine ⟨.inl ⟨rfl, xs, hx⟩, ?_⟩
    refine hb.use r1 h1 er1 fun b eb e2 G2 H2 y n2 r2 q2 h2 er2 => ?_
    cases hf : cntD ds b with
    | stuck => exact absurd hf h2
    | err z =>
      exfalso
      unfold cntD at hf
      cases b <;> try cases hf
      rename_i k
      cases hi : intsOf ds with
      | stuck => rw [show intOf (PyData.int k) = .ok k from rfl, ok_bind, hi] at hf; cases hf
      | err y => exact intsOf_ne ds y hi
      | ok is => rw [show intOf (PyData.int k) = .ok k from rfl, ok_bind, hi] at hf; cases hf
    | ok s =>
      unfold cntD at hf
      cases b <;> try cases hf
      rename_i k
      rw [show intOf (PyData.int k) = .ok k from rfl, ok_bind] at hf
      cases hi : intsOf ds with
      | stuck => rw [hi] at hf; cases hf
      | err y => rw [hi] at hf; cases hf
      | ok is =>
        rw [hi, ok_bind] at hf
        cases hf
        have ax := DpAll.ex n2.g ax
        rw [intsOf_eq hi] at ax
        have hx := Ex.sql n2.h hx
        have ey := db_int q2
        subst ey
        rw [dpall_ints ax] at hx
        refine ⟨p, is, k, rfl, rfl, hx, ok _ ?_ G2 H2 _ (n1.trans n2) (.int _)⟩
        unfold fCnt
        rw [e1]
        show (Fb ρ >>= fun b => cntD ds b) = _
        rw [eb]
        show cntD ds (.int k) = _
        unfold cntD
        rw [show intOf (PyData.int k) = .ok k from rfl, ok_bind, hi, ok_bind]
  | none => exact absurd rfl h1
  | bool b => exact absurd rfl h1
  | int b => exact absurd rfl h1
  | str b => exact absurd rfl h1
  | tuple b => exact absurd rfl h1
  | _ => exact absurd rfl h1
section
variable {ca : Nat → Addr} {X : Cx} {E : XK} {o e : Expr} {ta tb : TE} {Fa Fb : Env → Rs PyData} {p p2 pos pos2 apos cpos : Pos}
theorem js_count (ha : JB ca X E o ta Fa) (hb : JB ca X E e tb Fb)
    (hbase : attributeBase o "count" X.env (eval o X.env) = eval o X.env := by rfl)
    (hfew : ((backTo cpos (starEach [e] X.env)).all (fun x => !x.1) && (backToKw cpos (keywordEach [] X.env)).all (fun x => x.1.isSome)
      && decide (([e]).length + ([] : List Keyword).length + (if ([] : List Keyword).isEmpty then 0 else 1) < 30)) = true := by rfl)
    (hline : (apos.endLine == cpos.line) = true := by rfl) (hs : starEach [e] X.env = (false, eval e X.env) :: starEach [] X.env := by rfl) (hplain : (backTo cpos (starEach [] X.env)).any (·.1) = false := by rfl) :
    JS ca X E (.Call (.Attribute o "count" apos) [e] [] cpos) (tBM X.K "list" (rCntI X.K) ta (tCons tb tNil)) (fCnt Fa Fb) :=
  ⟨pe_bm PySem.F.plainAttrs_list PySem.F.slot_list_count PySem.F.type_list_count mt_lcount ha.pe (pa_cons hb.pe pa_nil hs) hbase hfew hline hs hplain, sem_cnt (c := ⟨X.K, ca⟩) ha.sem hb.sem⟩
/-! ### list(reversed(xs)), list(range(..)) -/
def lstRevD : PyData → Rs Sl
  | .list ds => .ok (.ol ds.reverse)
  | _ => .stuck
theorem jv_listRev (ha : JB ca X E e ta Fa) (hc : X.calm = true) (hm : X.mg "list" = none) (hm2 : X.mg "reversed" = none) (hg : Gl X "list" := by rfl) (hg2 : Gl X "reversed" := by rfl)
    (hs : starEach [e] X.env = (false, eval e X.env) :: starEach [] X.env := by rfl)
    (hs2 : starEach [.Call (.Name "reversed" p2) [e] [] pos2] X.env = (false, eval (.Call (.Name "reversed" p2) [e] [] pos2) X.env) :: starEach [] X.env := by rfl) :
    JV ca X E (.Call (.Name "list" p) [.Call (.Name "reversed" p2) [e] [] pos2] [] pos) (RT.tLstRev X.K ta) (fUn lstRevD Fa) :=
  ⟨RT.pe_lstRev hc hg hm hg2 hm2 ha.pe hs hs2, by
    intro G H ρ σ rep hns Q ok er
    refine ha.sem.use rep hns er fun a ea e1 G1 H1 x n1 r1 q1 h1 er1 => ?_
    cases a with
    | list ds =>
      obtain ⟨p, xs, rfl, hx, ax⟩ := db_list n1.gh q1
      refine ⟨p, xs, rfl, hx, fun l hl => ok (.ol ds.reverse) ?_ G1 _ _ (n1.trans (Nx.hid n1.gh hl)) ⟨l, _, rfl, n1.h.back hl, n1.gh.back hl, upd_same, DpAll.reverse ax⟩⟩
      unfold fUn
      rw [ea]
      rfl
    | _ => exact absurd rfl h1⟩
def lstRgD : List PyData → Rs Sl := fun ds => rng1 ds >>= fun is => if is.length ≤ 2 ^ 24 then .ok (.ol is) else .stuck
theorem jv_listRg (ha : JS ca X E e ta Fa) (hc : X.calm = true) (hm : X.mg "list" = none) (hm2 : X.mg "range" = none) (hg : Gl X "list" := by rfl) (hg2 : Gl X "range" := by rfl)
    (hs : starEach [e] X.env = (false, eval e X.env) :: starEach [] X.env := by rfl)
    (hs2 : starEach [.Call (.Name "range" p2) [e] [] pos2] X.env = (false, eval (.Call (.Name "range" p2) [e] [] pos2) X.env) :: starEach [] X.env := by rfl) :
    JV ca X E (.Call (.Name "list" p) [.Call (.Name "range" p2) [e] [] pos2] [] pos) (tLstRg (tRg1 ta)) (fUn (fun d => lstRgD [d]) Fa) :=
  ⟨pe_listRg hc hg hm (prg_1 hg2 hm2 ha.pe hs) hs2, by
    intro G H ρ σ rep hns Q ok er
    refine ha.sem.use rep hns er fun a ea e1 G1 H1 x n1 r1 q1 h1 er1 => ?_
    have q1 : Dp X.K G1 x a := q1
    cases a with
    | int j =>
      by_cases hj : small62 j
      · have e2 : rng1 [.int j] = .ok (rangeD 0 j) := if_pos hj
        by_cases hl : (rangeD 0 j).length ≤ 2 ^ 24
        · refine ⟨j, Dp.int_v q1, ⟨by decide, by decide, hj.1, hj.2, by unfold rangeD at hl; simpa using hl⟩, fun l hl' => ok (.ol (rangeD 0 j)) ?_ G1 _ _ (n1.trans (Nx.hid n1.gh hl')) ⟨l, _, rfl, n1.h.back hl', n1.gh.back hl', upd_same, ?_⟩⟩
          · unfold fUn
            rw [ea]
            show lstRgD [.int j] = _
            unfold lstRgD
            rw [e2, ok_bind, if_pos hl]
          · unfold rgV rangeD
            have : ∀ (is : List Nat), DpAll X.K G1 (is.map fun (i : Nat) => V.int (0 + (i : Nat))) (is.map fun (i : Nat) => PyData.int (0 + i)) := by
              intro is
              induction is with
              | nil => exact .nil
              | cons i is ih => exact .cons (.int _) ih
            exact this _
        · exact absurd (show lstRgD [.int j] = .stuck by unfold lstRgD; rw [e2, ok_bind, if_neg hl]) h1
      · exact absurd (show lstRgD [.int j] = .stuck by unfold lstRgD; rw [show rng1 [.int j] = .stuck from if_neg hj]; rfl) h1
    | _ => exact absurd rfl h1⟩
end
end PF

namespace PF
open PySem L2
/-! ### what a text leaves as it is: the i-th variable -/
def agr (i : Nat) (σ0 σ : L2.St) : Prop := σ[i]? = σ0[i]?
theorem agr.refl (i : Nat) (σ : L2.St) : agr i σ σ := rfl
structure Eqv (i : Nat) (σ0 : L2.St) (D D' : Ends) : Prop where
  rt : D.rt = D'.rt
  nx : ∀ σ H, agr i σ0 σ → D.nx σ H = D'.nx σ H
  bk : ∀ σ H, agr i σ0 σ → D.bk σ H = D'.bk σ H
  ct : ∀ σ H, agr i σ0 σ → D.ct σ H = D'.ct σ H
def Keeps (i : Nat) (t : TS) : Prop := ∀ (σ0 : L2.St) (D D' : Ends) (σ : L2.St) (H : Hp), agr i σ0 σ → Eqv i σ0 D D' → t D σ H = t D' σ H
def KeepsG (i : Nat) (g : TG) : Prop := ∀ (σ0 : L2.St) (x : V) (Q Q' : L2.St → Hp → Prop) (σ : L2.St) (H : Hp), agr i σ0 σ → (∀ σ H, agr i σ0 σ → Q σ H = Q' σ H) → g x σ H Q = g x σ H Q'
theorem keeps_next {i : Nat} : Keeps i tNext := fun σ0 D D' σ H a e => e.nx σ H a
theorem keeps_never {i : Nat} : Keeps i tNever := fun _ _ _ _ _ _ _ => rfl
theorem keeps_seq {i : Nat} {t u : TS} (h : Keeps i t) (k : Keeps i u) : Keeps i (tSeq t u) := fun σ0 D D' σ H a e => h σ0 _ _ σ H a ⟨e.rt, fun σ H b => k σ0 D D' σ H b e, e.bk, e.ct⟩
theorem keeps_if {i : Nat} {c : TT} {t u : TS} (h : Keeps i t) (k : Keeps i u) : Keeps i (tIfS c t u) := fun σ0 D D' σ H a e => by
  show c σ H _ = c σ H _
  congr 1
  funext b H1
  by_cases hb : b = true
  · rw [if_pos hb, if_pos hb]; exact h σ0 D D' σ H1 a e
  · rw [if_neg hb, if_neg hb]; exact k σ0 D D' σ H1 a e
theorem keeps_ret {i : Nat} {te : TE} : Keeps i (tRet te) := fun σ0 D D' σ H a e => by
  show te σ H _ = te σ H _
  rw [e.rt]
theorem keeps_drop {i : Nat} {te : TE} : Keeps i (tDrop te) := fun σ0 D D' σ H a e => by
  show te σ H _ = te σ H _
  congr 1
  funext x H1
  exact e.nx σ H1 a
theorem keeps_asg {i : Nat} {te : TE} {g : TG} (h : KeepsG i g) : Keeps i (tAsg te g) := fun σ0 D D' σ H a e => by
  show te σ H _ = te σ H _
  congr 1
  funext x H1
  exact h σ0 x _ _ σ H1 a e.nx
theorem keepsG_name {i j : Nat} (hij : j ≠ i) : KeepsG i (gName j) := fun σ0 x Q Q' σ H a e => e _ H (by
  show (σ.set j (some x))[i]? = _
  rw [List.getElem?_set, if_neg hij]
  exact a)
theorem keepsG_sub {i : Nat} {to ti : TE} {t : TSet} : KeepsG i (gSub to ti t) := fun σ0 x Q Q' σ H a e => by
  show to σ H _ = to σ H _
  congr 1
  funext o H1
  show ti σ H1 _ = ti σ H1 _
  congr 1
  funext y H2
  congr 1
  funext H3
  exact e σ H3 a
theorem Keeps.use {i : Nat} {t : TS} (h : Keeps i t) {D : Ends} {σ : L2.St} {H : Hp} (k : t { D with nx := fun σ' H' => agr i σ σ' → D.nx σ' H', ct := fun σ' H' => agr i σ σ' → D.ct σ' H' } σ H) : t D σ H := by
  rw [h σ D { D with nx := fun σ' H' => agr i σ σ' → D.nx σ' H', ct := fun σ' H' => agr i σ σ' → D.ct σ' H' } σ H (agr.refl i σ) ⟨rfl, fun σ' H' a => propext ⟨fun q _ => q, fun q => q a⟩, fun _ _ _ => rfl, fun σ' H' a => propext ⟨fun q _ => q, fun q => q a⟩⟩]
  exact k
theorem KeepsG.use {i : Nat} {g : TG} (h : KeepsG i g) {x : V} {Q : L2.St → Hp → Prop} {σ : L2.St} {H : Hp} (k : g x σ H (fun σ' H' => agr i σ σ' → Q σ' H')) : g x σ H Q := by
  rw [h σ x Q (fun σ' H' => agr i σ σ' → Q σ' H') σ H (agr.refl i σ) fun σ' H' a => propext ⟨fun q _ => q, fun q => q a⟩]
  exact k
/-! ### a loop over a list of our own that the body leaves ours -/
def forQ (i : Nat) (T : Tgt) (B : Env → Rs Out) : Nat → Nat → Env → Rs Out
  | 0, _, _ => .stuck
  | n + 1, k, ρ => match ρ[i]? with
    | some (.ol ds) => match ds[k]? with
      | some d => match T d ρ with
        | some ρ' => after (B ρ') (forQ i T B n (k + 1))
        | none => .stuck
      | none => .ok (.nx ρ)
    | _ => .stuck
def fForQ (i : Nat) (T : Tgt) (B : Env → Rs Out) : Env → Rs Out := fun ρ => match ρ[i]? with
  | some (.ol ds) => forQ i T B (ds.length + 1) 0 ρ
  | _ => .stuck
theorem own_slot {o : Option Sl} {β : Type} {k : List PyData → Rs β} (h : (match o with | some (.ol ds) => k ds | _ => .stuck) ≠ .stuck) : ∃ ds, o = some (.ol ds) := by
  split at h
  · exact ⟨_, rfl⟩
  · exact absurd rfl h
theorem jp_forQ {ca : Nat → Addr} {X : Cx} {E : XK} {pos : Pos} (i : Nat) {y : Str} {p0 : Pos} {tg : Expr} {body : List Stmt} {g : TG} {tb : TS} {T : Tgt} {L : List Nat} {B : Env → Rs Out} (hx : PE X (.Name y p0) (tVar i)) (hg : JG ca X tg g T L) (hb : JPs ca X E body tb B) (hkg : KeepsG i g) (hk : Keeps i tb)
    (hp : PassesOwn (model X.prog X.w) X.A X.env X.xe) (hc : X.calm = true) (hs : ∀ x, foldedSetIterable (.Name y p0) X.env x = pure x := by intro _; rfl) : JP ca X E (.For tg (.Name y p0) body [] pos) (tFor (iList X.K (tVar i)) g tb) (fForQ i T B) := by
  refine ⟨ps_for hp hc (pi_list hx) hg.pg hb.ps hs, fun G0 H0 G H ρ σ rep en hns D nx rt er => ?_⟩
  obtain ⟨ds, hds⟩ := own_slot (o := ρ[i]?) (k := fun ds => forQ i T B (ds.length + 1) 0 ρ) hns
  have e0 : fForQ i T B ρ = forQ i T B (ds.length + 1) 0 ρ := by unfold fForQ; rw [hds]
  obtain ⟨o, e1, p, xs, rfl, gp, hpp, q⟩ := rep.sl i _ hds
  refine ⟨.ref p, e1, p, rfl, ⟨xs, .inl (.inl hpp)⟩, fun k m σ1 H1 => ∃ G1 ρ1, Rep ⟨X.K, ca⟩ G1 H1 ρ1 σ1 ∧ Ent G0 H0 G1 H1 ρ1 σ1 ∧ σ1[i]? = some (some (.ref p)) ∧ forQ i T B m k ρ1 = fForQ i T B ρ,
    ⟨ds.length + 1, G, ρ, rep, en, e1, e0.symm⟩, fun k m σ1 H1 h => ?_⟩
  obtain ⟨G1, ρ1, rep1, en1, hσ1, hf⟩ := h
  cases m with
  | zero => exact absurd hf.symm hns
  | succ m =>
    have hns1 : forQ i T B (m + 1) k ρ1 ≠ .stuck := by rw [hf]; exact hns
    obtain ⟨ds1, hds1⟩ := own_slot (o := ρ1[i]?) (k := fun ds => match ds[k]? with
      | some d => match T d ρ1 with
        | some ρ' => after (B ρ') (forQ i T B m (k + 1))
        | none => .stuck
      | none => .ok (.nx ρ1)) hns1
    obtain ⟨o, e2, p', xs1, rfl, gp1, hp1, q1⟩ := rep1.sl i _ hds1
    rw [hσ1] at e2
    cases e2
    have hl := DpAll.length q1
    have sq : SqL X.K H1 p xs1 := .inl (.inl hp1)
    have hstep : forQ i T B (m + 1) k ρ1 = match ds1[k]? with
      | some d => match T d ρ1 with
        | some ρ' => after (B ρ') (forQ i T B m (k + 1))
        | none => .stuck
      | none => .ok (.nx ρ1) := by
      conv => lhs; unfold forQ
      rw [hds1]
    by_cases hlt : k < ds1.length
    · have hd : ds1[k]? = some ds1[k] := List.getElem?_eq_getElem hlt
      have hlx : k < xs1.length := by omega
      rw [hd] at hstep
      have hstep : forQ i T B (m + 1) k ρ1 = match T ds1[k] ρ1 with
        | some ρ' => after (B ρ') (forQ i T B m (k + 1))
        | none => .stuck := hstep
      refine .inr ⟨⟨xs1, xs1[k], sq, List.getElem?_eq_getElem hlx⟩, ?_⟩
      refine ⟨fun σ2 H2 => ∃ G2 ρ3, Rep ⟨X.K, ca⟩ G2 H2 ρ3 σ2 ∧ Ent G0 H0 G2 H2 ρ3 σ2 ∧ σ2[i]? = some (some (.ref p)) ∧ forQ i T B m (k + 1) ρ3 = fForQ i T B ρ, fun σ2 H2 hN => ⟨m, Nat.lt_succ_self m, hN⟩, fun x H2 hy => ?_⟩
      obtain ⟨rfl, hy2⟩ := hy
      have hx1 := hy2 xs1 sq
      obtain ⟨d', hd', qx⟩ := DpAll.get q1 hx1
      rw [hd] at hd'
      cases hd'
      cases ht : T ds1[k] ρ1 with
      | none => rw [ht] at hstep; exact absurd hstep hns1
      | some ρ2 =>
        rw [ht] at hstep
        have hf2 : after (B ρ2) (forQ i T B m (k + 1)) = fForQ i T B ρ := hstep.symm.trans hf
        refine hkg.use ?_
        refine hg.sem G1 H2 ρ1 σ1 x _ ρ2 rep1 qx ht _ fun σ2 r3 o _ ha => ?_
        have en2 : Ent G0 H0 G1 H2 ρ2 σ2 := ent_tgt en1 o
        refine hk.use ?_
        exact hb.sem.use (k := forQ i T B m (k + 1)) r3 en2 (by rw [hf2]; exact hns) (fun ρ' e3 e4 G3 H3 σ3 r4 en3 ha3 => ⟨G3, ρ', r4, en3, by
            have a1 : σ2[i]? = σ1[i]? := ha
            have a2 : σ3[i]? = σ2[i]? := ha3
            rw [a2, a1, hσ1], e4.symm.trans hf2⟩) (fun s e3 G3 H3 v n3 q3 => rt s (hf2.symm.trans e3) G3 H3 v n3 q3)
          fun x e G3 H3 cl dd n3 => er x (hf2.symm.trans e) G3 H3 cl dd n3
    · have hd : ds1[k]? = none := List.getElem?_eq_none (by omega)
      rw [hd] at hstep
      exact .inl ⟨⟨xs1, sq, by omega⟩, nx ρ1 (hf.symm.trans hstep) G1 H1 σ1 rep1 en1⟩
/-! ### a def that changes the list that comes first, and tells nothing -/
def spM (c : Pc) (f : List PyData → List PyData → Rs (List PyData)) (np : Nat) : Sp := fun vs H Q E => ∃ (G : Hp) (p : Addr) (xs : List V) (ds : List PyData) (vs' : List V) (as : List PyData), vs = .ref p :: vs' ∧ Ex G H ∧ G p = none ∧ H p = some (.lst xs) ∧ DpAll c.K G xs ds ∧ DpAll c.K G vs' as ∧ as.length + 1 = np ∧ f ds as ≠ .stuck ∧ (∀ x, f ds as ≠ .err x) ∧
  ∀ ds', f ds as = .ok ds' → ∀ G' H' xs', Nx G H G' H' → G' p = none → DpAll c.K G' xs' ds' → Q .non (upd H' p (.lst xs'))
def outM (r : Rs Out) : Rs (List PyData) := r >>= fun o => match o with
  | .nx ρ => ownL ρ[0]?
  | .rt _ => .stuck
def fnM (np n : Nat) (F : Env → Rs Out) (ds as : List PyData) : Rs (List PyData) := if as.length + 1 = np then outM (F (.ol ds :: as.map Sl.sh ++ List.replicate (n - np) Sl.no)) else .stuck
theorem fn_okM {P : Program} {w : World} {K : PySem.W.Frag} {mg : Str → Option Value} {base : Heap} {ca : Nat → Addr} {x qual : Str} {st : Stmt} {f : Addr} {fd : FuncData} {N ps : List Str} {k : Nat} (F : Fun K x qual st f fd) (S : FnScope N ps (defScope st)) (FF : Env → Rs Out)
    (hb : ∀ (cdv : Value) (A : Around) (outer : List PySem.Env) (s : Shared) (H : Hp) (E : XK), Room k (A.deeper (PyProof.Rows.envOfC qual (defScope st) s.heap.objs.size f cdv)) →
      CxOk (cxOf (L2.CX P w) P w K mg base N qual (defScope st) f cdv A outer s H E) E →
      ∃ t, JPs ca (cxOf (L2.CX P w) P w K mg base N qual (defScope st) f cdv A outer s H E) E (defBody st) t FF ∧ Keeps 0 t) (hnp : ps.length ≤ N.length := by decide) :
    FnOk P w K mg base (L2.CX P w) (k + 1) f fd ps (spM ⟨K, ca⟩ (fnM ps.length N.length FF) ps.length) := by
  refine F.okX S (fun vs H Q E h => ?_) (fun cdv A outer s H vs Q E hr h => ?_)
  · obtain ⟨G, p, xs, ds, vs', as, rfl, _, _, _, _, a, e, _⟩ := h
    rw [List.length_cons, DpAll.length a, e]
  · obtain ⟨G, p, xs, ds, vs', as, rfl, e, gp, hp, q, a, el, hns, hne, hok⟩ := h
    have o : CxOk (cxOf (L2.CX P w) P w K mg base N qual (defScope st) f cdv A outer s H E) E :=
      ⟨rfl, by have := hr.un; show (A.deeper _).units + 200 < cLine; omega, S.nd, passes_of rfl, passes_call (takes_of rfl rfl rfl rfl) fun _ _ _ _ z => z, takes_of rfl rfl rfl rfl⟩
    obtain ⟨t, ⟨hps, hsem⟩, hkeep⟩ := hb cdv A outer s H E hr o
    refine ⟨t, hps, ?_⟩
    have hav := DpAll.length a
    have gd : Ex G (delH H p) := fun b u hb => by
      unfold delH
      rw [if_neg (fun z => by rw [z, gp] at hb; cases hb)]
      exact e b u hb
    have dh : Ex (delH H p) H := fun b u hb => by
      unfold delH at hb
      split at hb
      · cases hb
      · exact hb
    have hst : L2.start N (.ref p :: vs') = some (.ref p) :: (vs'.map some ++ List.replicate (N.length - (vs'.length + 1)) none) := by
      unfold L2.start
      rw [List.map_cons, List.length_cons]
      rfl
    have rep : Rep ⟨K, ca⟩ G H (.ol ds :: as.map Sl.sh ++ List.replicate (N.length - ps.length) Sl.no) (L2.start N (.ref p :: vs')) := by
      rw [hst]
      refine ⟨e, ?_, fun i s h => ?_, fun i j s s' r h1 h2 w1 w2 _ _ => ?_⟩
      · simp only [List.length_append, List.length_cons, List.length_map, List.length_replicate]
        omega
      · cases i with
        | zero =>
          cases h
          exact ⟨_, rfl, p, xs, rfl, gp, hp, q⟩
        | succ i =>
          rw [List.cons_append, List.getElem?_cons_succ] at h
          rw [List.getElem?_cons_succ]
          by_cases hi : i < as.length
          · rw [List.getElem?_append_left (by rw [List.length_map]; exact hi), List.getElem?_map] at h
            cases hd : as[i]? with
            | none => rw [hd] at h; cases h
            | some d =>
              rw [hd] at h
              cases h
              obtain ⟨v, hv, qd⟩ := DpAll.getD a hd
              refine ⟨some v, ?_, v, rfl, qd⟩
              rw [List.getElem?_append_left (by rw [List.length_map]; omega), List.getElem?_map, hv]
              rfl
          · rw [List.getElem?_append_right (by rw [List.length_map]; omega)] at h
            have hs := List.mem_of_getElem? h
            rw [(List.mem_replicate.mp hs).2]
            have hlt := (List.getElem?_eq_some_iff.mp h).1
            rw [List.length_map, List.length_replicate] at hlt
            refine ⟨none, ?_, trivial⟩
            rw [List.getElem?_append_right (by rw [List.length_map]; omega), List.getElem?_replicate, if_pos (by rw [List.length_map]; omega)]
      · have only : ∀ (i : Nat) s, (.ol ds :: as.map Sl.sh ++ List.replicate (N.length - ps.length) Sl.no : Env)[i]? = some s → s.own = true → i = 0 := fun i s h1 w1 => by
          cases i with
          | zero => rfl
          | succ i =>
            rw [List.cons_append, List.getElem?_cons_succ] at h1
            rcases List.mem_append.mp (List.mem_of_getElem? h1) with m | m
            · obtain ⟨d, _, rfl⟩ := List.mem_map.mp m
              cases w1
            · rw [(List.mem_replicate.mp m).2] at w1
              cases w1
        rw [only i s h1 w1, only j s' h2 w2]
    have ent : Ent G (delH H p) G H (.ol ds :: as.map Sl.sh ++ List.replicate (N.length - ps.length) Sl.no) (L2.start N (.ref p :: vs')) := by
      refine ⟨⟨Ex.refl _, dh, e, fun _ _ h => .inl h⟩, fun i s r h1 h2 h3 => ?_⟩
      cases i with
      | zero =>
        rw [hst] at h3
        cases h3
        exact delH_same
      | succ i =>
        rw [List.cons_append, List.getElem?_cons_succ] at h1
        rcases List.mem_append.mp (List.mem_of_getElem? h1) with m | m
        · obtain ⟨d, _, rfl⟩ := List.mem_map.mp m
          cases h2
        · rw [(List.mem_replicate.mp m).2] at h2
          cases h2
    have key : ∀ r, FF (.ol ds :: as.map Sl.sh ++ List.replicate (N.length - ps.length) Sl.no) = r → fnM ps.length N.length FF ds as = outM r := fun r z => by unfold fnM; rw [if_pos el, z]
    refine hkeep.use ?_
    refine hsem G (delH H p) G H _ _ rep ent (fun z => hns (by rw [key _ z]; rfl)) _ (fun ρ' z G' H' σ' r' n' ha => ?_) (fun s z G' H' v n q => ?_) fun y z => ?_
    · have e1 := key _ z
      have e2 : outM (.ok (.nx ρ')) = ownL ρ'[0]? := rfl
      rw [e2] at e1
      cases ho : ρ'[0]? with
      | none => rw [ho] at e1; exact absurd e1 hns
      | some s0 =>
        rw [ho] at e1
        cases s0 with
        | ol ds' =>
          obtain ⟨o', e3, p', xs', rfl, gp', hp', q'⟩ := r'.sl 0 _ ho
          have ha : σ'[0]? = (L2.start N (.ref p :: vs'))[0]? := ha
          rw [hst] at ha
          rw [ha] at e3
          cases e3
          have hfin : upd (upd H' p (.lst xs)) p (.lst xs') = H' := by
            funext b
            by_cases hb : b = p
            · rw [hb, upd_same, hp']
            · rw [upd_ne hb, upd_ne hb]
          have := hok ds' e1 G' (upd H' p (.lst xs)) xs' ⟨n'.nx.g, fun b u hu => ?_, fun b u hu => ?_, fun b hb gb => ?_⟩ gp' q'
          · rw [hfin] at this
            exact this
          · by_cases hb : b = p
            · rw [hb] at hu ⊢
              rw [hp] at hu
              rw [upd_same]
              exact hu
            · rw [upd_ne hb]
              exact n'.nx.h b u (by unfold delH; rw [if_neg hb]; exact hu)
          · rw [upd_ne (fun z => by rw [z, gp'] at hu; cases hu)]
            exact n'.nx.gh b u hu
          · by_cases hbp : b = p
            · rw [hbp]; exact .inl gp'
            · exact n'.nx.fr b (by unfold delH; rw [if_neg hbp]; exact hb) gb
        | no => exact absurd e1 hns
        | sh d => exact absurd e1 hns
        | od d => exact absurd e1 hns
        | exn d => exact absurd e1 hns
        | hal _ _ => exact absurd e1 hns
    · exact absurd (by rw [key _ z]; rfl) hns
    · exact absurd (by rw [key _ z]; rfl) (hne y)
structure CalleeM (P : Program) (w : World) (K : PySem.W.Frag) (mg : Str → Option Value) (base : Heap) (ca : Nat → Addr) (x : Str) (k : Nat) (f : List PyData → List PyData → Rs (List PyData)) (np : Nat) : Prop where
  ex : ∃ (a : Addr) (fd : FuncData) (ps : List Str), FnOk P w K mg base (L2.CX P w) k a fd ps (spM ⟨K, ca⟩ f np) ∧ mg x = some (.ref a) ∧ PySem.W.keepIn K (.ref a) = true ∧ Binds K fd ps []
  len : ∀ ds as, f ds as ≠ .stuck → as.length + 1 = np
theorem fnM_len {np n : Nat} {F : Env → Rs Out} (ds as : List PyData) (h : fnM np n F ds as ≠ .stuck) : as.length + 1 = np := by
  unfold fnM at h
  split at h
  · assumption
  · exact absurd rfl h
theorem calleeM_of {P : Program} {w : World} {K : PySem.W.Frag} {mg : Str → Option Value} {base : Heap} {ca : Nat → Addr} {x qual y : Str} {st : Stmt} {f : Addr} {fd : FuncData} {ps : List Str} {k np n : Nat} {F : Env → Rs Out} (Fu : Fun K y qual st f fd) (h : FnOk P w K mg base (L2.CX P w) k f fd ps (spM ⟨K, ca⟩ (fnM np n F) np))
    (hm : mg x = some (.ref f)) (hb : Binds K fd ps []) : CalleeM P w K mg base ca x k (fnM np n F) np := ⟨⟨f, fd, ps, h, hm, Fu.kp, hb⟩, fnM_len⟩
def noErr {α : Type} (r : Rs α) : Rs α := match r with
  | .ok a => .ok a
  | _ => .stuck
/-- f(xs, ..), xs a list of our own that f changes -/
def fCallM (i : Nat) (f : List PyData → List PyData → Rs (List PyData)) (F : Env → Rs (List PyData)) : Env → Rs Out := fun ρ => ownL ρ[i]? >>= fun ds => F ρ >>= fun as => noErr (f ds as) >>= fun ds' => .ok (.nx (ρ.set i (.ol ds')))
theorem jp_callM {ca : Nat → Addr} {X : Cx} {E : XK} (i : Nat) {x y : Str} {k np : Nat} {f : List PyData → List PyData → Rs (List PyData)} {es : List Expr} {t : TA} {Fa : Env → Rs (List PyData)} {p p2 pos pos2 : Pos} (C : CalleeM X.prog X.w X.K X.mg X.base ca x k f np) (hr : Room k X.A) (hx : Passes (L2.CX X.prog X.w) X E)
    (hy : PE X (.Name y p2) (tVar i)) (ha : JA ca X E es t Fa) (hg : Gl X x := by rfl) (hdb : (x == ("__debug__" : Str)) = false := by decide) (he : starEach (.Name y p2 :: es) X.env = (false, eval (.Name y p2) X.env) :: starEach es X.env := by rfl) (hpl : (backTo pos (starEach es X.env)).any (·.1) = false := by rfl)
    (hsw : swapsWith (.Call (.Name x p) (.Name y p2 :: es) [] pos) none pos2.line X.env = pure false := by rfl) :
    JP ca X E (.Expr (.Call (.Name x p) (.Name y p2 :: es) [] pos) pos2) (tDrop (tCall (spM ⟨X.K, ca⟩ f np) [] E (tCons (tVar i) t))) (fCallM i f Fa) := by
  obtain ⟨fa, fd, ps, F, hm, hk, hb⟩ := C.ex
  refine ⟨ps_expr (pe_call F hr hg hm hk hb .nil hx (pa_cons hy ha.pa he) hdb he hpl) hsw, fun G0 H0 G H ρ σ rep en hns D nx rt er => ?_⟩
  obtain ⟨ds, hs⟩ := ownL_ok hns
  have e0 : fCallM i f Fa ρ = (Fa ρ >>= fun as => noErr (f ds as) >>= fun ds' => .ok (.nx (ρ.set i (.ol ds')))) := by unfold fCallM; rw [hs]; rfl
  rw [e0] at hns nx er
  obtain ⟨o, e1, p, xs, rfl, gp, hp, q⟩ := rep.sl i _ hs
  refine (⟨.ref p, e1, ?_⟩ : ∃ v, σ[i]? = some (some v) ∧ t σ H (fun xs H2 => spM ⟨X.K, ca⟩ f np ((v :: xs) ++ []) H2 (fun _ H1 => D.nx σ H1) E))
  refine ha.sem.use rep hns (fun x e G' H' cl dd n => er x e G' H' cl dd (en.nx.trans n)) fun as es2 e2 G1 H1 vs n1 r1 q1 hk1 er1 => ?_
  obtain ⟨o', e3, p', xs', z, gp1, hp1, qq⟩ := r1.sl i _ hs
  rw [e1] at e3
  cases e3
  cases z
  show spM _ f np (.ref p :: vs ++ []) H1 _ E
  rw [List.append_nil]
  cases hf : f ds as with
  | stuck => exact absurd (by rw [hf]; rfl) hk1
  | err x => exact absurd (by rw [hf]; rfl) hk1
  | ok ds' =>
    refine ⟨G1, p, xs', ds, vs, as, rfl, n1.gh, gp1, hp1, qq, q1, C.len ds as (by rw [hf]; exact (fun z => nomatch z)), by rw [hf]; exact (fun z => nomatch z), by rw [hf]; exact (fun x z => nomatch z), fun ds'' e4 G' H' ys n2 gp2 q2 => ?_⟩
    rw [hf] at e4
    cases e4
    obtain ⟨r3, n3⟩ := mut_ol (r1.nx n2) ((en.go n1).go n2) hs e1 gp2 (n2.h _ _ hp1) q2
    exact nx _ (by rw [e2, hf]; rfl) G' _ σ r3 n3
end PF

namespace PF
open PySem L2
/-! ### dicts of our own, by tuples of numbers -/
def keyOf : PyData → Rs (List Int)
  | .tuple ds => intsOf ds
  | _ => .stuck
def ownT : Option Sl → Rs (List (List Int × PyData))
  | some (.od kvs) => .ok kvs
  | _ => .stuck
theorem ownT_ok {o : Option Sl} {β : Type} {k : List (List Int × PyData) → Rs β} (h : (ownT o >>= k) ≠ .stuck) : ∃ ds, o = some (.od ds) := by
  unfold ownT at h
  split at h
  · exact ⟨_, rfl⟩
  · exact absurd rfl h
def putI {α : Type} (kvs : List (List Int × α)) (k : List Int) (d : α) : List (List Int × α) :=
  if (kvs.any fun kv => decide (kv.1 = k)) = true then kvs.map (fun kv => if kv.1 = k then (kv.1, d) else kv) else kvs ++ [(k, d)]
def getI {α : Type} (kvs : List (List Int × α)) (k : List Int) : Option α := (kvs.find? fun kv => decide (kv.1 = k)).map (·.2)
theorem inl_inj : ∀ {a b : List Int}, a.map (Sum.inl : Int → Key) = b.map Sum.inl → a = b
  | [], [], _ => rfl
  | [], _ :: _, h => by cases h
  | _ :: _, [], h => by cases h
  | x :: a, y :: b, h => by
    rw [List.map_cons, List.map_cons] at h
    obtain ⟨h1, h2⟩ := List.cons.inj h
    cases h1
    rw [inl_inj h2]
theorem inl_iff {a b : List Int} : a.map (Sum.inl : Int → Key) = b.map Sum.inl ↔ a = b := ⟨inl_inj, fun h => by rw [h]⟩
theorem kv_nil {K : PySem.W.Frag} {G : Hp} : KvOk K G [] [] := ⟨rfl, .nil⟩
theorem kv_cons {K : PySem.W.Frag} {G : Hp} {e : List Key × V} {es : List (List Key × V)} {kv : List Int × PyData} {kvs : List (List Int × PyData)} : KvOk K G (e :: es) (kv :: kvs) ↔ e.1 = kv.1.map Sum.inl ∧ Dp K G e.2 kv.2 ∧ KvOk K G es kvs := by
  unfold KvOk
  constructor
  · rintro ⟨h1, h2⟩
    rw [List.map_cons, List.map_cons] at h1 h2
    obtain ⟨a, b⟩ := List.cons.inj h1
    cases h2 with
    | cons c d => exact ⟨a, c, b, d⟩
  · rintro ⟨a, c, b, d⟩
    exact ⟨by rw [List.map_cons, List.map_cons, a, b], by rw [List.map_cons, List.map_cons]; exact .cons c d⟩
theorem kv_len {K : PySem.W.Frag} {G : Hp} {es : List (List Key × V)} {kvs : List (List Int × PyData)} (h : KvOk K G es kvs) : es.length = kvs.length := by
  have := congrArg List.length h.1
  rwa [List.length_map, List.length_map] at this
theorem kv_any {K : PySem.W.Frag} {G : Hp} (k : List Int) : ∀ {es : List (List Key × V)} {kvs : List (List Int × PyData)}, KvOk K G es kvs → (es.any fun kv => decide (kv.1 = k.map Sum.inl)) = (kvs.any fun kv => decide (kv.1 = k))
  | [], [], _ => rfl
  | [], _ :: _, h => by have := kv_len h; simp at this
  | _ :: _, [], h => by have := kv_len h; simp at this
  | e :: es, kv :: kvs, h => by
    obtain ⟨a, _, c⟩ := kv_cons.mp h
    rw [List.any_cons, List.any_cons, kv_any k c, a]
    congr 1
    rw [decide_eq_decide]
    exact inl_iff
theorem kv_map {K : PySem.W.Frag} {G : Hp} (k : List Int) {v : V} {d : PyData} (hv : Dp K G v d) : ∀ {es : List (List Key × V)} {kvs : List (List Int × PyData)}, KvOk K G es kvs → KvOk K G (es.map fun kv => if kv.1 = k.map Sum.inl then (kv.1, v) else kv) (kvs.map fun kv => if kv.1 = k then (kv.1, d) else kv)
  | [], [], _ => kv_nil
  | [], _ :: _, h => by have := kv_len h; simp at this
  | _ :: _, [], h => by have := kv_len h; simp at this
  | e :: es, kv :: kvs, h => by
    obtain ⟨a, b, c⟩ := kv_cons.mp h
    rw [List.map_cons, List.map_cons]
    refine kv_cons.mpr ?_
    by_cases hk : kv.1 = k
    · rw [if_pos hk, if_pos (by rw [a, hk])]
      exact ⟨a, hv, kv_map k hv c⟩
    · rw [if_neg hk, if_neg (by rw [a]; exact fun z => hk (inl_inj z))]
      exact ⟨a, b, kv_map k hv c⟩
theorem kv_snoc {K : PySem.W.Frag} {G : Hp} {k : List Int} {v : V} {d : PyData} (hv : Dp K G v d) {es : List (List Key × V)} {kvs : List (List Int × PyData)} (h : KvOk K G es kvs) : KvOk K G (es ++ [(k.map Sum.inl, v)]) (kvs ++ [(k, d)]) :=
  ⟨by rw [List.map_append, List.map_append, h.1]; rfl, by rw [List.map_append, List.map_append]; exact DpAll.append h.2 (.cons hv .nil)⟩
theorem kv_put {K : PySem.W.Frag} {G : Hp} {k : List Int} {v : V} {d : PyData} (hv : Dp K G v d) {es : List (List Key × V)} {kvs : List (List Int × PyData)} (h : KvOk K G es kvs) : KvOk K G (putK es (k.map Sum.inl) v) (putI kvs k d) := by
  unfold putK putI
  rw [kv_any k h]
  by_cases c : (kvs.any fun kv => decide (kv.1 = k)) = true
  · rw [if_pos c, if_pos c]; exact kv_map k hv h
  · rw [if_neg c, if_neg c]; exact kv_snoc hv h
theorem kv_get {K : PySem.W.Frag} {G : Hp} (k : List Int) : ∀ {es : List (List Key × V)} {kvs : List (List Int × PyData)}, KvOk K G es kvs → (valV es (k.map Sum.inl) = none ∧ getI kvs k = none) ∨ ∃ v d, valV es (k.map Sum.inl) = some v ∧ getI kvs k = some d ∧ Dp K G v d
  | [], [], _ => .inl ⟨rfl, rfl⟩
  | [], _ :: _, h => by have := kv_len h; simp at this
  | _ :: _, [], h => by have := kv_len h; simp at this
  | e :: es, kv :: kvs, h => by
    obtain ⟨a, b, c⟩ := kv_cons.mp h
    have ih := kv_get k c
    unfold valV getI at *
    rw [List.find?_cons, List.find?_cons]
    by_cases hk : kv.1 = k
    · rw [decide_eq_true hk, decide_eq_true (show e.1 = k.map Sum.inl by rw [a, hk])]
      exact .inr ⟨_, _, rfl, rfl, b⟩
    · rw [decide_eq_false hk, decide_eq_false (show ¬ e.1 = k.map Sum.inl by rw [a]; exact fun z => hk (inl_inj z))]
      exact ih
theorem key_at {K : PySem.W.Frag} {G : Hp} {v : V} {d : PyData} {k : List Int} (h : Dp K G v d) (hk : keyOf d = .ok k) : ∃ b, v = .ref b ∧ G b = some (.tup ((k.map Sum.inl).map kV)) := by
  cases d with
  | tuple ds =>
    obtain ⟨b, xs, rfl, hb, a⟩ := Dp.tuple_s h
    have e := intsOf_eq (show intsOf ds = .ok k from hk)
    rw [e] at a
    have ex := dpall_ints a
    refine ⟨b, rfl, ?_⟩
    rw [hb, ex, List.map_map]
    rfl
  | none => cases hk
  | bool _ => cases hk
  | int _ => cases hk
  | str _ => cases hk
  | list _ => cases hk
  | dict _ => cases hk
theorem mut_od {c : Pc} {G0 H0 G H : Hp} {ρ : Env} {σ : L2.St} {i : Nat} {ds ds' : List (List Int × PyData)} {p : Addr} {es es' : List (List Key × V)} (rep : Rep c G H ρ σ) (en : Ent G0 H0 G H ρ σ) (hs : ρ[i]? = some (.od ds)) (hp : σ[i]? = some (some (.ref p)))
    (gp : G p = none) (hH : H p = some (.dT es)) (q : KvOk c.K G es' ds') : Rep c G (upd H p (.dT es')) (ρ.set i (.od ds')) σ ∧ Ent G0 H0 G (upd H p (.dT es')) (ρ.set i (.od ds')) σ := by
  have h0 := en.own i _ p hs rfl hp
  refine ⟨rep.mut hs rfl hp gp ⟨p, es', rfl, gp, upd_same, q⟩, ⟨⟨en.nx.g, fun a u e => ?_, fun a u e => ?_, en.nx.fr⟩, fun j s r e w f => ?_⟩⟩
  · rw [upd_ne (ne_of_none e h0)]
    exact en.nx.h a u e
  · rw [upd_ne (ne_of_none e gp)]
    exact rep.gh a u e
  · by_cases hij : i = j
    · subst hij
      rw [hp] at f
      cases f
      exact h0
    · rw [List.getElem?_set, if_neg hij] at e
      exact en.own j s r e w f
def fNewD : Env → Rs Sl := fun _ => .ok (.od [])
def fDSet (i : Nat) (Fv Fk : Env → Rs PyData) : Env → Rs Out := fun ρ => Fv ρ >>= fun d => ownT ρ[i]? >>= fun kvs => Fk ρ >>= fun kd => keyOf kd >>= fun k => if kvs.length < lim then .ok (.nx (ρ.set i (.od (putI kvs k d)))) else .stuck
def fDGet (i : Nat) (Fk : Env → Rs PyData) : Env → Rs PyData := fun ρ => ownT ρ[i]? >>= fun kvs => Fk ρ >>= fun kd => keyOf kd >>= fun k => match getI kvs k with
  | some d => .ok d
  | none => .stuck
def fDIn (i : Nat) (Fk : Env → Rs PyData) : Env → Rs PyData := fun ρ => Fk ρ >>= fun kd => keyOf kd >>= fun k => ownT ρ[i]? >>= fun kvs => .ok (.bool (getI kvs k).isSome)
theorem keyOf_ne {d : PyData} {x : Exn} : keyOf d ≠ .err x := fun h => by
  cases d with
  | tuple ds => exact intsOf_ne ds x h
  | none => cases h
  | bool _ => cases h
  | int _ => cases h
  | str _ => cases h
  | list _ => cases h
  | dict _ => cases h
section
variable {ca : Nat → Addr} {X : Cx} {E : XK} {k v : Expr} {tk tv : TE} {Fk Fv : Env → Rs PyData} {x : Str} {p apos pos : Pos}
theorem jv_dict : JV ca X E (.Dict [] [] pos) tDNewT fNewD :=
  ⟨pe_dnewT, fun G H ρ σ rep hns Q ok er p hp => ok (.od []) rfl G _ _ (Nx.hid rep.gh hp) ⟨p, [], rfl, hp, rep.gh.back hp, upd_same, kv_nil⟩⟩
theorem jp_dset (i : Nat) (hu : X.A.units + 64 < cLine) (hv : JS ca X E v tv Fv) (hx : PE X (.Name x p) (tVar i)) (hk : JS ca X E k tk Fk)
    (ha : ∀ w, assign (.Subscript (.Name x p) k apos) X.env w = (do
      let ov ← holding [w] (eval (.Name x p) X.env)
      let iv ← holding [w, ov] (eval k X.env)
      standAt apos
      holding [w, ov, iv] (setItem ov iv w)
      release [w, ov, iv] []) := by intro _; rfl) (hs : swapsWithSole [.Subscript (.Name x p) k apos] v pos.line X.env = pure false := by rfl) (hw : swappedStores [.Subscript (.Name x p) k apos] v X.env = pure none := by rfl) :
    JP ca X E (.Assign [.Subscript (.Name x p) k apos] v pos) (tAsg tv (gSub (tVar i) tk rSetD)) (fDSet i Fv Fk) := by
  refine ⟨ps_asg hv.pe (pg_sub hx hk.pe (set_dict (by omega)) ha) hs hw, fun G0 H0 G H ρ σ rep en hns D nx rt er => ?_⟩
  refine hv.sem.use rep hns (fun x e G' H' cl dd n => er x e G' H' cl dd (en.nx.trans n)) fun d ed e1 G1 H1 u n1 r1 q1 h1 er1 => ?_
  have nx0 : ∀ ρ', (ownT ρ[i]? >>= fun kvs => Fk ρ >>= fun kd => keyOf kd >>= fun k => if kvs.length < lim then (.ok (.nx (ρ.set i (.od (putI kvs k d)))) : Rs Out) else .stuck) = .ok (.nx ρ') → ∀ G' H' σ', Rep ⟨X.K, ca⟩ G' H' ρ' σ' → Ent G0 H0 G' H' ρ' σ' → D.nx σ' H' := fun ρ' e => nx ρ' (e1.trans e)
  obtain ⟨ds, hs⟩ := ownT_ok h1
  have e0 : (ownT ρ[i]? >>= fun kvs => Fk ρ >>= fun kd => keyOf kd >>= fun k => if kvs.length < lim then (.ok (.nx (ρ.set i (.od (putI kvs k d)))) : Rs Out) else .stuck) = (Fk ρ >>= fun kd => keyOf kd >>= fun k => if ds.length < lim then (.ok (.nx (ρ.set i (.od (putI ds k d)))) : Rs Out) else .stuck) := by rw [hs]; rfl
  rw [e0] at h1 er1 nx0
  obtain ⟨o, e2, pp, es, rfl, gp, hp, qq⟩ := r1.sl i _ hs
  refine ⟨.ref pp, e2, ?_⟩
  refine hk.sem.use r1 h1 er1 fun kd ek e3 G2 H2 w n2 r2 q2 h2 er2 => ?_
  obtain ⟨o', e4, p', es', z, gp2, hp2, qq2⟩ := r2.sl i _ hs
  rw [e2] at e4
  cases e4
  cases z
  cases hko : keyOf kd with
  | stuck => exact absurd (by rw [hko]; rfl) h2
  | err y => exact absurd hko keyOf_ne
  | ok kk =>
    rw [hko, ok_bind] at h2
    by_cases hl : ds.length < lim
    · obtain ⟨b, rfl, hb⟩ := key_at (show Dp X.K G2 w kd from q2) hko
      refine ⟨pp, _, rfl, DPut.t hp2 (n2.gh _ _ hb) (lim_lt (by rw [kv_len qq2]; exact hl)), ?_⟩
      obtain ⟨r3, n3⟩ := mut_od r2 ((en.go n1).go n2) hs e2 gp2 hp2 (kv_put (k := kk) (Dp.ex n2.g q1) qq2)
      exact nx0 _ (by rw [ek, ok_bind, hko, ok_bind, if_pos hl]) G2 _ σ r3 n3
    · rw [if_neg hl] at h2
      exact absurd rfl h2
theorem js_dget (i : Nat) (hu : X.A.units + 64 < cLine) (hx : PE X (.Name x p) (tVar i)) (hk : JS ca X E k tk Fk) (hn : NoSl k := by intro _ _; rfl) : JS ca X E (.Subscript (.Name x p) k pos) (tDGet (tVar i) tk) (fDGet i Fk) := by
  refine ⟨pe_dget (by omega) hx hk.pe hn, fun G H ρ σ rep hns Q ok er => ?_⟩
  obtain ⟨ds, hs⟩ := ownT_ok hns
  have e0 : fDGet i Fk ρ = (Fk ρ >>= fun kd => keyOf kd >>= fun k => match getI ds k with | some d => .ok d | none => .stuck) := by unfold fDGet; rw [hs]; rfl
  rw [e0] at hns er
  obtain ⟨o, e2, pp, es, rfl, gp, hp, qq⟩ := rep.sl i _ hs
  refine ⟨.ref pp, e2, ?_⟩
  refine hk.sem.use rep hns er fun kd ek e3 G2 H2 w n2 r2 q2 h2 er2 => ?_
  obtain ⟨o', e4, p', es', z, gp2, hp2, qq2⟩ := r2.sl i _ hs
  rw [e2] at e4
  cases e4
  cases z
  cases hko : keyOf kd with
  | stuck => exact absurd (by rw [hko]; rfl) h2
  | err y => exact absurd hko keyOf_ne
  | ok kk =>
    rw [hko, ok_bind] at h2
    obtain ⟨b, rfl, hb⟩ := key_at (show Dp X.K G2 w kd from q2) hko
    rcases kv_get kk qq2 with ⟨_, g2⟩ | ⟨u, d, g1, g2, g3⟩
    · rw [g2] at h2
      exact absurd rfl h2
    · refine ⟨pp, u, rfl, ?_, ok d (by rw [e0, ek, ok_bind, hko, ok_bind, g2]) G2 H2 u n2 g3⟩
      rw [← g1]
      exact DGet.t hp2 (n2.gh _ _ hb)
theorem sem_din (i : Nat) (hk : SemG ⟨X.K, ca⟩ E tk Fk (RS ⟨X.K, ca⟩)) : SemG ⟨X.K, ca⟩ E (tDIn tk (tVar i)) (fDIn i Fk) (RS ⟨X.K, ca⟩) := fun G H ρ σ rep hns Q ok er => by
  refine hk.use rep hns er fun kd ek e3 G2 H2 w n2 r2 q2 h2 er2 => ?_
  cases hko : keyOf kd with
  | stuck => exact absurd (by rw [hko]; rfl) h2
  | err y => exact absurd hko keyOf_ne
  | ok kk =>
    rw [hko, ok_bind] at h2
    obtain ⟨ds, hs⟩ := ownT_ok h2
    obtain ⟨o', e4, p', es', rfl, gp2, hp2, qq2⟩ := r2.sl i _ hs
    obtain ⟨b, rfl, hb⟩ := key_at (show Dp X.K G2 w kd from q2) hko
    refine ⟨.ref p', e4, p', valV es' (kk.map Sum.inl), rfl, DGet.t hp2 (n2.gh _ _ hb), ?_⟩
    have e : (valV es' (kk.map Sum.inl)).isSome = (getI ds kk).isSome := by
      rcases kv_get kk qq2 with ⟨g1, g2⟩ | ⟨u, d, g1, g2, g3⟩ <;> rw [g1, g2] <;> rfl
    rw [e]
    exact ok _ (by unfold fDIn; rw [ek, ok_bind, hko, ok_bind, hs]; rfl) G2 H2 _ n2 (.bl _)
theorem js_din (i : Nat) (hu : X.A.units + 64 < cLine) (hx : PE X (.Name x p) (tVar i)) (hk : JS ca X E k tk Fk) (hm : behindInMarks .In (.Name x p) = false := by first | rfl | with_unfolding_all rfl) : JS ca X E (.Compare k [.In] [.Name x p] pos) (tDIn tk (tVar i)) (fDIn i Fk) :=
  ⟨pe_cmp (pc_din (by omega) hk.pe hx) hm, sem_din i hk.sem⟩
theorem jt_din (i : Nat) (hu : X.A.units + 64 < cLine) (hx : PE X (.Name x p) (tVar i)) (hk : JS ca X E k tk Fk) (hm : behindInMarks .In (.Name x p) = false := by first | rfl | with_unfolding_all rfl) : JT ca X E (.Compare k [.In] [.Name x p] pos) (tB (tDIn tk (tVar i))) (fB (fDIn i Fk)) :=
  ⟨pt_cmp (pc_din (by omega) hk.pe hx) hm, sem_test (sem_din i hk.sem)⟩
end
/-! ### sorted(xs), xs data that can be compared place by place -/
def alikeB (ds : List PyData) : Bool := ds.all fun d => ds.all fun d' => PySem.W.alike d d'
def sortB (ds : List PyData) : Bool := (ds.all fun d => match d with | .tuple (_ :: _) => true | _ => false) || (ds.all fun d => match d with | .none => false | .tuple _ => false | _ => true)
def depB (ds : List PyData) : Bool := ds.all fun d => decide (d.depth ≤ 20)
def sortD : PyData → Rs Sl
  | .list ds => if (alikeB ds && (sortB ds || decide (ds.length ≤ 1)) && depB ds && decide (ds.length ≤ lim)) = true then .ok (.ol (ds.mergeSort (PySem.W.dataLe false id))) else .stuck
  | _ => .stuck
theorem alikeB_iff {ds : List PyData} (h : alikeB ds = true) : PySem.W.AllAlike ds := fun d hd d' hd' => by
  unfold alikeB at h
  exact List.all_eq_true.mp (List.all_eq_true.mp h d hd) d' hd'
theorem sortB_iff {ds : List PyData} (h : sortB ds = true) : PySem.W.Sortable ds := by
  unfold sortB at h
  rw [Bool.or_eq_true, List.all_eq_true, List.all_eq_true] at h
  rcases h with h | h
  · refine .inl fun d hd => ?_
    have := h d hd
    split at this
    · exact ⟨_, _, rfl⟩
    · cases this
  · refine .inr fun d hd => ?_
    have := h d hd
    refine ⟨fun z => ?_, fun xs z => ?_⟩ <;> rw [z] at this <;> cases this
def rSortedD (K : PySem.W.Frag) (u : Nat) : List V → Hp → VK → Prop := fun vs H Q => ∃ (G : Hp) (a : Addr) (xs : List V) (ds : List PyData), vs = [V.ref a] ∧ Ex G H ∧ SqL K H a xs ∧ DpAll K G xs ds ∧ PySem.W.AllAlike ds ∧ (PySem.W.Sortable ds ∨ ds.length ≤ 1) ∧ ds.length ≤ sizeLine ∧ (∀ d ∈ ds, u + 2 + d.depth < cLine) ∧
  ∀ (ys : List V) (p : Addr), DpAll K G ys (ds.mergeSort (PySem.W.dataLe false id)) → H p = none → Q (.ref p) (upd H p (.lst ys))
theorem each_of {K : PySem.W.Frag} {H : Hp} : ∀ {xs : List V} {us : List Value} {ds : List PyData}, Vals xs us → DpAll K H xs ds → PySem.W.EachIs (fun (v : Value) (d : PyData) => ∃ x, RelV x v ∧ Dp K H x d) us ds
  | _, _, _, .nil, .nil => .nil
  | _, _, _, .cons r rs, .cons h a => .cons ⟨_, r, h⟩ (each_of rs a)
theorem of_each {K : PySem.W.Frag} {H : Hp} {us : List Value} {ds : List PyData} (h : PySem.W.EachIs (fun (v : Value) (d : PyData) => ∃ x, RelV x v ∧ Dp K H x d) us ds) : ∃ xs, Vals xs us ∧ DpAll K H xs ds := by
  induction h with
  | nil => exact ⟨[], .nil, .nil⟩
  | cons r _ ih =>
    obtain ⟨x, r1, r2⟩ := r
    obtain ⟨xs, a, b⟩ := ih
    exact ⟨x :: xs, .cons r1 a, .cons r2 b⟩
theorem sort_small {α : Type} {le : α → α → Bool} : ∀ {ds : List α}, ds.length ≤ 1 → ds.mergeSort le = ds
  | [], _ => by simp
  | [b], _ => by simp
  | _ :: _ :: _, h => absurd h (by simp)
theorem perm_small {α : Type} : ∀ {xs ys : List α}, ys.length ≤ 1 → xs.Perm ys → xs = ys
  | _, [], _, p => List.Perm.eq_nil p
  | _, [v], _, p => List.perm_singleton.mp p
  | _, _ :: _ :: _, h, _ => absurd h (by simp)
open PyProof.Rows PySem.Spec in
theorem sorted_small {P : Program} {w : World} {A : Around} {E : Value → Shared → Prop} {s : Shared} {l : Addr} {vs : List Value} {Q : Value → Shared → Prop} (hl : s.heap.IsList l vs.toArray) (h1 : vs.length ≤ 1)
    (h : Q (.ref (s.heap.objs.size + 1)) { s with heap := PyProof.Rows.sortedAll s.heap vs vs.toArray }) : wpAny (model P w) A (call (.builtin "sorted") [.ref l]) Q E s := by
  refine PySem.W.sorted_of_sort hl (by rw [sizeLine_eq]; omega) (args_sorted1 _) (fun _ => args_list_sort _) fun E' => ?_
  refine SK.plain_sort (r := fun _ => 0) (PySem.W.copyHeap_at s.heap vs) (by omega) (fun h2 => absurd h2 (by omega)) fun ps out a1 a2 a3 => ?_
  obtain ⟨p, _⟩ := TS.out_rank (r := fun _ => 0) a1 a2 a3
  have eo : out.toList = vs := perm_small h1 p
  have eo2 : out = vs.toArray := Array.toList_inj.mp eo
  subst eo2
  exact ⟨rfl, h⟩
theorem cr_sortedD {X : Cx} : CallR X (.builtin "sorted") (rSortedD X.K X.A.units) := by
  intro pins s σ H vs us Q I r h
  obtain ⟨G, a, xs, ds, rfl, hGH, hs, ha, hal, hk, hL, hu, q⟩ := h
  obtain ⟨its, rv, hl, hz⟩ := I.list hs
  rw [Vals.ref1 r]
  have e1 := each_of rv ha
  have e2 : PySem.W.EachIs (fun v b => ∃ as, Reads s.heap v (id b) as) its ds := e1.mono fun v d ⟨x, r1, r2⟩ => Dp.reads I d x v (Dp.ex hGH r2) r1
  rcases hk with hk | h1
  case inr =>
    have hil : its.length ≤ 1 := by rw [e1.length]; exact h1
    refine sorted_small hl.isList hil ?_
    obtain ⟨ep, he'⟩ := PyProof.Rows.sortedAll_at s.heap its its.toArray
    have hlen : xs.length ≤ sizeLine := by rw [rv.length, e1.length]; exact hL
    have eb : ds.mergeSort (PySem.W.dataLe false id) = ds := sort_small h1
    exact ⟨.ref _, upd H (s.heap.objs.size + 1) (.lst xs), I.laid (t' := s.toks) (fun _ _ => PyProof.Rows.sortedAll_old) (Nat.le_succ _) ⟨hlen, its, ep, rv, he'⟩, rfl, q xs _ (by rw [eb]; exact ha) (I.hok.fresh (Nat.le_succ _))⟩
  refine PySem.W.sorted_data (enc := id) (bs := ds) (R := fun (v : Value) (d : PyData) => ∃ x, RelV x v ∧ Dp X.K G x d) hl.isList e1 e2 (by rw [List.map_id]; exact hal) (by rw [List.map_id]; exact hk) hL hu fun out ho he => ?_
  obtain ⟨ys, y1, y2⟩ := of_each he
  obtain ⟨ep, he'⟩ := PyProof.Rows.sortedAll_at s.heap its out.toArray
  have hlen : ys.length ≤ sizeLine := by rw [y1.length, ho]; exact hL
  exact ⟨.ref _, upd H (s.heap.objs.size + 1) (.lst ys), I.laid (t' := s.toks) (fun _ _ => PyProof.Rows.sortedAll_old) (Nat.le_succ _) ⟨hlen, out, ep, y1, he'⟩, rfl, q ys _ y2 (I.hok.fresh (Nat.le_succ _))⟩
theorem jv_sorted {ca : Nat → Addr} {X : Cx} {E : XK} {a : Expr} {ta : TE} {Fa : Env → Rs PyData} {p pos : Pos} (ha : JB ca X E a ta Fa) (hm : X.mg "sorted" = none) (hu : X.A.units + 64 < cLine) (hg : Gl X "sorted" := by rfl) (hst : starEach [a] X.env = (false, eval a X.env) :: starEach [] X.env := by rfl) :
    JV ca X E (.Call (.Name "sorted" p) [a] [] pos) (tCB (rSortedD X.K X.A.units) (tCons ta tNil)) (fUn sortD Fa) :=
  ⟨pe_callB cr_sortedD hg hm (by decide +kernel) (pa_cons ha.pe pa_nil hst) (he := hst), fun G H ρ σ rep hns Q ok er => by
    refine ha.sem.use rep hns er fun d ed e1 G1 H1 v n1 r1 q1 h1 er1 => ?_
    cases d with
    | list ds =>
      by_cases hc : (alikeB ds && (sortB ds || decide (ds.length ≤ 1)) && depB ds && decide (ds.length ≤ lim)) = true
      · obtain ⟨a, xs, rfl, hx, ax⟩ := db_list n1.gh q1
        have hc2 := hc
        rw [Bool.and_eq_true, Bool.and_eq_true, Bool.and_eq_true, decide_eq_true_eq] at hc2
        obtain ⟨⟨⟨c1, c2⟩, c3⟩, c4⟩ := hc2
        refine ⟨G1, a, xs, ds, rfl, n1.gh, hx, ax, alikeB_iff c1, (by
          rw [Bool.or_eq_true, decide_eq_true_eq] at c2
          exact c2.imp sortB_iff id), lim_le c4, fun d hd => ?_, fun ys l hy hl => ?_⟩
        · have := List.all_eq_true.mp c3 d hd
          rw [decide_eq_true_eq] at this
          omega
        · refine ok (.ol (ds.mergeSort (PySem.W.dataLe false id))) (by unfold fUn; rw [ed]; exact if_pos hc) G1 _ _ (n1.trans (Nx.hid n1.gh hl)) ⟨l, ys, rfl, n1.h.back hl, n1.gh.back hl, upd_same, hy⟩
      · exact absurd (show sortD (.list ds) = .stuck from if_neg hc) h1
    | _ => exact absurd rfl h1⟩
end PF

namespace L2
open PySem PySem.Spec PyProof.Rows
/-! ### sorted(set(xs)), xs a list of tuples of numbers (any numbers) -/
theorem _root_.PySem.W.Sortable.tuples' {β : Type} {enc : β → PyData} {bs : List β} (h : ∀ b ∈ bs, ∃ x r, enc b = .tuple (x :: r)) : PySem.W.Sortable (bs.map enc) := .inl fun d hd => by
  obtain ⟨b, hb, rfl⟩ := List.mem_map.mp hd
  exact h b hb
def encQ (q : Addr × List Int) : PyData := .tuple (q.2.map .int)
section
variable {P : Program} {w : World} {h : Heap}
theorem reads_ints : ∀ {k : List Int} {vs : List Value}, ItemsAre (intKind P w) k vs → ReadsAll h vs (k.map .int) []
  | _, _, .nil => .nil
  | _, _, .cons h1 t => by
    obtain ⟨tk, e2⟩ := Value.isInt_shape h1
    rw [e2]
    exact ReadsAll.cons (as := []) (.int _ _) (reads_ints t)
theorem isT_reads {k : List Int} {b : Addr} (x : IsT P w h k b) : Reads h (.ref b) (.tuple (k.map .int)) [] := by
  obtain ⟨o, items, n, ho, hc, hd, hi⟩ := x
  exact .tuple ho hc hd (reads_ints hi)
end
section
variable {P : Program} {w : World} {A : Around} {E : Value → Shared → Prop} {s : Shared}
theorem each_refs : ∀ L1 : List (Addr × List Int), PySem.W.EachIs (fun (v : Value) (q : Addr × List Int) => v = .ref q.1) (L1.map fun q => Value.ref q.1) L1
  | [] => .nil
  | q :: L1 => .cons rfl (each_refs L1)
theorem refs_each : ∀ {out : List Value} {L1 : List (Addr × List Int)}, PySem.W.EachIs (fun (v : Value) (q : Addr × List Int) => v = .ref q.1) out L1 → out = L1.map fun q => Value.ref q.1
  | _, _, .nil => rfl
  | _, _, .cons h t => by rw [List.map_cons, h, ← refs_each t]
theorem list_sort_dataS {β : Type} {R : Value → β → Prop} {enc : β → PyData} {bs : List β} {vs : List Value} {a : Addr} {n : Nat} {Q : Value → Shared → Prop} (ho : s.heap.get? a = some (seqObj "list" vs.toArray n)) (e : PySem.W.EachIs R vs bs) (er : PySem.W.EachIs (fun v b => ∃ as, Reads s.heap v (enc b) as ∧ a ∉ as) vs bs) (hal : PySem.W.AllAlike (bs.map enc)) (hk : PySem.W.Sortable (bs.map enc) ∨ bs.length ≤ 1) (hL : bs.length ≤ sizeLine)
    (hu : ∀ b, b ∈ bs → A.units + 1 + (enc b).depth < cLine) (h : ∀ out : List Value, out.length = bs.length → PySem.W.EachIs R out (bs.mergeSort (PySem.W.dataLe false enc)) → Q .none { s with heap := sortedHeap s.heap a vs (List.toArray out) }) :
    wpAny (model P w) A (call (.builtin "list.sort") [.ref a]) Q E s := by
  rcases hk with hk | h1
  · exact PySem.W.list_sort_data ho e er hal hk hL hu h
  · have hvl : vs.length ≤ 1 := by rw [e.length]; exact h1
    refine wpAny_call_entry slot_list_sort ⟨_, ho, rfl⟩ entry_list_sort (SK.plain_sort (r := fun _ => 0) ho (by omega) (fun h2 => absurd h2 (by omega)) fun ps out a1 a2 a3 => ?_) (args_list_sort _)
    obtain ⟨p, _⟩ := TS.out_rank (r := fun _ => 0) a1 a2 a3
    have eo : out.toList = vs := by
      have hl := p.length_eq
      match vs, hvl, p with
      | [], _, p => exact List.Perm.eq_nil p
      | [v], _, p => exact List.perm_singleton.mp p
    have eb : bs.mergeSort (PySem.W.dataLe false enc) = bs := by
      match bs, h1 with
      | [], _ => simp
      | [b], _ => simp
    refine ⟨_, rfl, ?_⟩
    have := h out.toList (by rw [eo]; exact e.length) (by rw [eb, eo]; exact e)
    simpa using this
theorem sorted_setD {a : Addr} {L : List (Addr × List Int)} {es : Array (Int × Value)} {ep : Nat} {t : SetTable} {Q : Value → Shared → Prop} (R : SetTR P w s.heap a L es ep t) (hh : A.handled = none)
    (hal : PySem.W.AllAlike (L.map encQ)) (hk : PySem.W.Sortable (L.map encQ) ∨ L.length ≤ 1) (hu : A.units + 4 < cLine)
    (hQ : ∀ s' p (out : Array Value) (c : Nat) (L1 : List (Addr × List Int)), (∀ b o, s.heap.get? b = some o → s'.heap.get? b = some o) → s'.gens = s.gens → s'.os = s.os → s.heap.objs.size ≤ p →
      s'.heap.get? p = some (seqObj "list" out c) → L1.Perm L → out.toList = (L1.mergeSort (PySem.W.dataLe false encQ)).map (fun q => Value.ref q.1) → Q (.ref p) s') :
    wpAny (model P w) A (call (.builtin "sorted") [.ref a]) Q E s := by
  obtain ⟨o, ho, hex, hd⟩ := R.ob
  have hsz := R.size
  have hfew := R.few
  refine Calls.call_function_entry kind_sorted plain_sorted entry_sorted (args_sorted1 _) ?_
  unfold Builtin.«sorted»
  refine wpAny_bind (m := checkCount "sorted" 1 1 _) (wpAny_pure ?_)
  refine wpAny_bind (collect_set (A := A.in1) hh ⟨o, ho, hex.1, hd⟩ R.fits (by unfold scanBound; omega) R.tab.ris R.led fun s1 vs k1 hz g1 o1 pm => ?_)
  have hes : es.toList.map (·.2) = L.map fun q => Value.ref q.1 := by
    rw [R.rows]
    unfold rowsOf
    rw [List.map_map] <;> rfl
  rw [hes] at pm
  have ord : ∀ vs : List Value, (∀ v ∈ vs, ∃ q ∈ L, v = Value.ref q.1) → ∃ L1 : List (Addr × List Int), vs = L1.map (fun q => Value.ref q.1) ∧ ∀ q ∈ L1, q ∈ L := by
    intro vs
    induction vs with
    | nil => intro _; exact ⟨[], rfl, fun q hq => (by cases hq)⟩
    | cons v vs ih =>
      intro hv
      obtain ⟨q, hq, e⟩ := hv v List.mem_cons_self
      obtain ⟨L1, e1, hs⟩ := ih fun u hu => hv u (List.mem_cons_of_mem _ hu)
      refine ⟨q :: L1, by rw [List.map_cons, e, e1], fun r hr => ?_⟩
      rcases List.mem_cons.mp hr with z | z
      · rw [z]; exact hq
      · exact hs r z
  have one : ∀ q ∈ L, ∀ r ∈ L, q.1 = r.1 → q = r := fun q hq r hr e => by
    have a1 := R.tup q hq
    have a2 := R.tup r hr
    rw [e] at a1
    have e2 : q.2 = r.2 := a1.inj a2
    exact Prod.ext e e2
  have perm_of : ∀ L1 : List (Addr × List Int), (∀ q ∈ L1, q ∈ L) → (L1.map (fun q => Value.ref q.1)).Perm (L.map fun q => Value.ref q.1) → L1.Perm L := by
    intro L1 hs pm1
    have nL : L.Nodup := nodup_of_map R.nd
    have nref : (L.map fun q => Value.ref q.1).Nodup := by
      refine List.pairwise_map.mpr (List.Pairwise.imp_of_mem (fun {q r} hq hr hne e => ?_) nL)
      injection e with e
      exact hne (one q hq r hr e)
    have n1 : L1.Nodup := nodup_of_map (pm1.nodup_iff.mpr nref)
    refine (List.perm_ext_iff_of_nodup n1 nL).mpr fun q => ⟨hs q, fun hq => ?_⟩
    have hm : Value.ref q.1 ∈ L1.map (fun q => Value.ref q.1) := pm1.mem_iff.mpr (List.mem_map.mpr ⟨q, hq, rfl⟩)
    obtain ⟨r, hr, e⟩ := List.mem_map.mp hm
    injection e with e
    rw [← one r (hs r hr) q hq e]
    exact hr
  have hvl : vs.length < 64 := by rw [pm.length_eq, List.length_map]; exact hfew
  obtain ⟨L1, e1, hs1⟩ := ord vs fun v hv => by
    obtain ⟨q, hq, e⟩ := List.mem_map.mp (pm.mem_iff.mp hv)
    exact ⟨q, hq, e.symm⟩
  have p1 : L1.Perm L := perm_of L1 hs1 (by rw [← e1]; exact pm)
  refine wpAny_bind (wpAny_newList ?_ (by rw [sizeLine_eq]; omega))
  have hoL : (s1.heap.push (seqObj "list" vs.toArray 0)).get? s1.heap.objs.size = some (seqObj "list" vs.toArray 0) := Heap.get?_push_size _ rfl
  have hl1 : L1.length ≤ sizeLine := by
    have : L1.length = vs.length := by rw [e1, List.length_map]
    rw [this, sizeLine_eq]
    omega
  have hal1 : PySem.W.AllAlike (L1.map encQ) := fun d hd d' hd' => by
    have m : ∀ d ∈ L1.map encQ, d ∈ L.map encQ := fun d hd => (p1.map encQ).mem_iff.mp hd
    exact hal d (m d hd) d' (m d' hd')
  have hk1 : PySem.W.Sortable (L1.map encQ) ∨ L1.length ≤ 1 := by
    have m : ∀ d ∈ L1.map encQ, d ∈ L.map encQ := fun d hd => (p1.map encQ).mem_iff.mp hd
    rcases hk with (k | k) | k
    · exact .inl (.inl fun d hd => k d (m d hd))
    · exact .inl (.inr fun d hd => k d (m d hd))
    · exact .inr (by rw [p1.length_eq]; exact k)
  have er : PySem.W.EachIs (fun (v : Value) (q : Addr × List Int) => ∃ as, Reads (s1.heap.push (seqObj "list" vs.toArray 0)) v (encQ q) as ∧ s1.heap.objs.size ∉ as) vs L1 := by
    rw [e1]
    have : ∀ M : List (Addr × List Int), (∀ q ∈ M, q ∈ L) → PySem.W.EachIs (fun (v : Value) (q : Addr × List Int) => ∃ as, Reads (s1.heap.push (seqObj "list" (L1.map fun q => Value.ref q.1).toArray 0)) v (encQ q) as ∧ s1.heap.objs.size ∉ as) (M.map fun q => Value.ref q.1) M := by
      intro M
      induction M with
      | nil => intro _; exact .nil
      | cons q M ih =>
        intro hM
        exact .cons ⟨[], isT_reads (P := P) (w := w) (isT_keep (R.tup q (hM q List.mem_cons_self)) fun b u e => Heap.get?_push_of_some _ (k1 b u e)), by simp⟩ (ih fun r hr => hM r (List.mem_cons_of_mem _ hr))
    exact this L1 hs1
  have hdep : ∀ q ∈ L1, A.in1.units + 1 + (encQ q).depth < cLine := fun q _ => by
    unfold encQ
    rw [PyData.depth, PySem.W.depth_ints]
    show A.units + 1 + 1 + (0 + 1) < cLine
    omega
  refine wpAny_bind (wpAny_holding (list_sort_dataS (s := { s1 with heap := s1.heap.push (seqObj "list" vs.toArray 0) }) (enc := encQ) (R := fun (v : Value) (q : Addr × List Int) => v = .ref q.1) hoL (by rw [e1]; exact each_refs L1) er hal1 hk1 hl1 hdep fun out ho' he' => ?_))
  obtain ⟨c, hc⟩ := sortedHeap_at (vs := vs) (out := out.toArray) hoL
  refine wpAny_pure ⟨_, rfl, hQ _ s1.heap.objs.size out.toArray c L1 (fun b u e => ?_) g1 o1 hz hc p1 (by rw [List.toList_toArray]; exact refs_each he')⟩
  have q := k1 b u e
  have hlt := Heap.lt_size q
  show (sortedHeap (s1.heap.push (seqObj "list" vs.toArray 0)) s1.heap.objs.size vs out.toArray).get? b = some u
  rw [sortedHeap_old (Nat.ne_of_lt hlt) (by rw [size_push']; exact Nat.lt_succ_of_lt hlt)]
  exact Heap.get?_push_of_some _ q
end
/-- sorted(set) -/
def rSortedSetD (K : PySem.W.Frag) (P : Program) (w : World) : List V → Hp → VK → Prop := fun vs H Q => ∃ (a : Addr) (L : List (Addr × List Int)), vs = [V.ref a] ∧ H a = some (SetTO P w a L) ∧ (∀ p ∈ L, SqT K H p.1 (p.2.map V.int)) ∧ PySem.W.AllAlike (L.map encQ) ∧ (PySem.W.Sortable (L.map encQ) ∨ ∀ p ∈ L, ∀ q ∈ L, p.2 = q.2) ∧
  ∀ (L1 : List (Addr × List Int)) (p : Addr), L1.Perm L → (L1.map (·.2)).Nodup → H p = none → Q (.ref p) (upd H p (.lst ((L1.mergeSort (PySem.W.dataLe false encQ)).map fun q => V.ref q.1)))
theorem cr_sortedSetD {X : Cx} (hc : X.calm = true) (hu : X.A.units + 64 < cLine) : CallR X (.builtin "sorted") (rSortedSetD X.K X.prog X.w) := by
  intro pins s σ H vs us Q I r h
  obtain ⟨a, L, rfl, ha, hk, hal, hso, q⟩ := h
  have R0 : SetT0 X.prog X.w s.heap a L := (I.hok a _ ha).1
  obtain ⟨es, ep, t, R⟩ := R0.full fun p hp => I.isT (hk p hp)
  rw [Vals.ref1 r]
  have hso : PySem.W.Sortable (L.map encQ) ∨ L.length ≤ 1 := hso.imp id fun z => by
    have nd := R.nd
    match L, nd, z with
    | [], _, _ => exact Nat.zero_le _
    | [p], _, _ => exact Nat.le_refl _
    | p :: q :: L, nd, z =>
      rw [List.map_cons, List.map_cons] at nd
      exact absurd (by rw [z p List.mem_cons_self q (by simp)]; exact List.mem_cons_self) (List.nodup_cons.mp nd).1
  refine sorted_setD R (I.ok.hd hc) hal hso (by omega) fun s' p out c L1 k g o hp hg pm hout => ?_
  have hfew : L1.length < 64 := by rw [pm.length_eq]; exact R.few
  have hlen : ((L1.mergeSort (PySem.W.dataLe false encQ)).map fun q => V.ref q.1).length ≤ sizeLine := by rw [List.length_map, List.length_mergeSort, sizeLine_eq]; omega
  have hn : H p = none := I.hok.fresh hp
  have hv : Vals ((L1.mergeSort (PySem.W.dataLe false encQ)).map fun q => V.ref q.1) out.toList := by rw [hout]; exact vals_of_refs _
  have J : Inv X pins σ (upd H p (.lst ((L1.mergeSort (PySem.W.dataLe false encQ)).map fun q => V.ref q.1))) { s with heap := s'.heap, gens := s'.gens, drawn := s'.drawn, toks := s'.toks } :=
    I.call (ch := []) (Un.laid k hp hn) (I.hok.laid k hp ⟨hlen, out.toList, c, hv, hg⟩) (by rw [g]; exact I.bare) (fun _ z => nomatch z)
  have e : s' = { s with heap := s'.heap, gens := s'.gens, drawn := s'.drawn, toks := s'.toks } := by
    cases s'
    cases s
    cases o
    rfl
  rw [e]
  exact ⟨.ref p, _, J, rfl, q L1 p pm ((pm.map (·.2)).nodup_iff.mpr R.nd) hn⟩
/-! ### a truth less another -/
theorem op_bsub {X : Cx} : OpR X (binaryOp .Sub) (fun x y H Q => ∃ a b : Bool, x = .bl a ∧ y = .bl b ∧ Q (.int (PyProof.Rows.b2i a - PyProof.Rows.b2i b)) H) := by
  intro pins s σ H x y v u Q I rx ry h
  obtain ⟨a, b, rfl, rfl, q⟩ := h
  cases rx
  cases ry
  exact PyProof.Rows.sub_bool ⟨.int _, H, I.tok _, ⟨_, rfl⟩, q⟩
end L2
namespace PF
open PySem L2
/-! ### the order of rows of numbers -/
theorem dataLe_tups {β : Type} (x : β → List Int) : PySem.W.dataLe false (fun b => PyData.tuple ((x b).map .int)) = fun p q => decide (x p ≤ x q) := by
  funext p q
  show (!PySem.W.dataLt (.tuple ((x q).map .int)) (.tuple ((x p).map .int))) = _
  rw [PySem.W.dataLt_tuple]
  show (!PySem.W.rowLt ((x q).map .int) ((x p).map .int)) = _
  rw [PySem.W.dataLt_ints]
  by_cases h : x q < x p
  · have h' : ¬ x p ≤ x q := fun r => List.not_lt.mpr r h
    simp [h, h']
  · have h' : x p ≤ x q := List.not_lt.mp h
    simp [h, h']
abbrev leT : List Int → List Int → Bool := fun p q => decide (p ≤ q)
theorem leT_trans (a b c : List Int) (h1 : leT a b = true) (h2 : leT b c = true) : leT a c = true := decide_eq_true (List.le_trans (of_decide_eq_true h1) (of_decide_eq_true h2))
theorem leT_total (a b : List Int) : (leT a b || leT b a) = true := by
  rw [Bool.or_eq_true, decide_eq_true_eq, decide_eq_true_eq]
  exact List.le_total a b
theorem leT_anti {a b : List Int} (h1 : leT a b = true) (h2 : leT b a = true) : a = b := List.le_antisymm (of_decide_eq_true h1) (of_decide_eq_true h2)
/-- rows in order are told by their members -/
theorem sorted_uniq {xs ys : List (List Int)} (hx : xs.Pairwise fun a b => leT a b = true) (hy : ys.Pairwise fun a b => leT a b = true) (h : xs.Perm ys) : xs = ys := List.Perm.eq_of_pairwise (fun a b _ _ h1 h2 => leT_anti h1 h2) hx hy h
/-- each once, in order -/
def sortSet (xs : List (List Int)) : List (List Int) := (xs.foldl (fun s x => if x ∈ s then s else s ++ [x]) []).mergeSort leT
theorem dd_mem {x : List Int} : ∀ (xs s : List (List Int)), x ∈ xs.foldl (fun s x => if x ∈ s then s else s ++ [x]) s ↔ x ∈ s ∨ x ∈ xs
  | [], s => by simp
  | y :: xs, s => by
    rw [List.foldl_cons, dd_mem xs, List.mem_cons]
    by_cases h : y ∈ s
    · rw [if_pos h]
      constructor
      · rintro (q | q)
        · exact .inl q
        · exact .inr (.inr q)
      · rintro (q | rfl | q)
        · exact .inl q
        · exact .inl h
        · exact .inr q
    · rw [if_neg h, List.mem_append, List.mem_singleton]
      exact or_assoc
theorem dd_nodup : ∀ (xs s : List (List Int)), s.Nodup → (xs.foldl (fun s x => if x ∈ s then s else s ++ [x]) s).Nodup
  | [], _, h => h
  | y :: xs, s, h => by
    rw [List.foldl_cons]
    refine dd_nodup xs _ ?_
    by_cases hm : y ∈ s
    · rw [if_pos hm]; exact h
    · rw [if_neg hm]
      exact List.nodup_append.mpr ⟨h, by simp, fun a ha b hb e => hm (by rw [List.mem_singleton.mp hb] at e; rwa [← e])⟩
theorem sortSet_of {xs ks : List (List Int)} (hn : ks.Nodup) (hm : ∀ k, k ∈ ks ↔ k ∈ xs) : ks.mergeSort leT = sortSet xs := by
  refine sorted_uniq (List.pairwise_mergeSort leT_trans leT_total _) (List.pairwise_mergeSort leT_trans leT_total _) ?_
  refine (List.mergeSort_perm _ _).trans (List.Perm.trans ?_ (List.mergeSort_perm _ _).symm)
  refine (List.perm_ext_iff_of_nodup hn (dd_nodup xs [] List.nodup_nil)).mpr fun k => ?_
  rw [dd_mem]
  simp [hm]
theorem sortSet_id {xs : List (List Int)} (hn : xs.Nodup) (hs : xs.Pairwise fun a b => leT a b = true) : sortSet xs = xs := by
  rw [← sortSet_of hn fun k => Iff.rfl]
  exact List.mergeSort_of_pairwise hs
/-- the keys of a list of tuples of numbers -/
def keysOf : List PyData → Rs (List (List Int))
  | [] => .ok []
  | d :: ds => keyOf d >>= fun k => keysOf ds >>= fun ks => .ok (k :: ks)
theorem keysOf_ne : ∀ (ds : List PyData) (x : Exn), keysOf ds ≠ .err x
  | [], x, h => by cases h
  | d :: ds, x, h => by
    unfold keysOf at h
    cases hk : keyOf d with
    | stuck => rw [hk] at h; cases h
    | err y => exact keyOf_ne hk
    | ok k =>
      rw [hk, ok_bind] at h
      cases hr : keysOf ds with
      | stuck => rw [hr] at h; cases h
      | err y => exact keysOf_ne ds y hr
      | ok ks => rw [hr, ok_bind] at h; cases h
def tupK (k : List Int) : PyData := .tuple (k.map .int)
def sortSetD : PyData → Rs Sl
  | .list ds => keysOf ds >>= fun ks => if ks.length < 64 ∧ ((ks.all fun k => !k.isEmpty) = true ∨ ks.length ≤ 1) then .ok (.ol ((sortSet ks).map tupK)) else .stuck
  | _ => .stuck
theorem sortSetD_eq (ds : List PyData) : sortSetD (.list ds) = keysOf ds >>= fun ks => if ks.length < 64 ∧ ((ks.all fun k => !k.isEmpty) = true ∨ ks.length ≤ 1) then .ok (.ol ((sortSet ks).map tupK)) else .stuck := rfl
theorem keys_at {K : PySem.W.Frag} {G : Hp} : ∀ {xs : List V} {ds : List PyData} {ks : List (List Int)}, DpAll K G xs ds → keysOf ds = .ok ks → ∃ ps : List (Addr × List Int), xs = (ps.map fun p => V.ref p.1) ∧ ps.map (·.2) = ks ∧ ∀ p ∈ ps, G p.1 = some (.tup (p.2.map V.int))
  | _, _, ks, .nil, h => by
    cases h
    exact ⟨[], rfl, rfl, fun _ h => nomatch h⟩
  | _, _, ks, .cons (v := v) (d := d) (ds := ds) hv a, h => by
    unfold keysOf at h
    cases hk : keyOf d with
    | stuck => rw [hk] at h; cases h
    | err y => rw [hk] at h; cases h
    | ok k =>
      rw [hk, ok_bind] at h
      cases hr : keysOf ds with
      | stuck => rw [hr] at h; cases h
      | err y => rw [hr] at h; cases h
      | ok ks' =>
        rw [hr, ok_bind] at h
        cases h
        obtain ⟨ps, e1, e2, e3⟩ := keys_at a hr
        obtain ⟨b, rfl, hb⟩ := key_at hv hk
        refine ⟨(b, k) :: ps, by rw [List.map_cons, e1], by rw [List.map_cons, e2], fun p hp => ?_⟩
        rcases List.mem_cons.mp hp with rfl | hp
        · rw [hb, List.map_map]; rfl
        · exact e3 p hp
theorem dp_ints {K : PySem.W.Frag} {G : Hp} : ∀ k : List Int, DpAll K G (k.map V.int) (k.map .int)
  | [] => .nil
  | i :: k => .cons (.int i) (dp_ints k)
theorem dp_tups {K : PySem.W.Frag} {G : Hp} : ∀ L : List (Addr × List Int), (∀ p ∈ L, G p.1 = some (.tup (p.2.map V.int))) → DpAll K G (L.map fun q => V.ref q.1) ((L.map (·.2)).map tupK)
  | [], _ => .nil
  | p :: L, h => .cons (.tup (h p List.mem_cons_self) (dp_ints p.2)) (dp_tups L fun q hq => h q (List.mem_cons_of_mem _ hq))
theorem jv_sortSet {ca : Nat → Addr} {X : Cx} {E : XK} {a : Expr} {ta : TE} {Fa : Env → Rs PyData} {p p2 pos pos2 : Pos} (ha : JB ca X E a ta Fa) (hc : X.calm = true) (hm : X.mg "sorted" = none) (hm2 : X.mg "set" = none) (hu : X.A.units + 64 < cLine) (hg : Gl X "sorted" := by rfl) (hg2 : Gl X "set" := by rfl)
    (hst : starEach [a] X.env = (false, eval a X.env) :: starEach [] X.env := by rfl)
    (hst2 : starEach [.Call (.Name "set" p2) [a] [] pos2] X.env = (false, eval (.Call (.Name "set" p2) [a] [] pos2) X.env) :: starEach [] X.env := by rfl) :
    JV ca X E (.Call (.Name "sorted" p) [.Call (.Name "set" p2) [a] [] pos2] [] pos) (tCB (rSortedSetD X.K X.prog X.w) (tCons (tCB (rSetOfT X.K X.prog X.w) (tCons ta tNil)) tNil)) (fUn sortSetD Fa) :=
  ⟨pe_callB (cr_sortedSetD hc hu) hg hm (by decide +kernel) (pa_cons (pe_callTy (cr_setOfT hc hu) hg2 hm2 (by decide +kernel) (pa_cons ha.pe pa_nil hst) (he := hst)) pa_nil hst2) (he := hst2), fun G H ρ σ rep hns Q ok er => by
    refine ha.sem.use rep hns er fun d ed e1 G1 H1 v n1 r1 q1 h1 er1 => ?_
    cases d with
    | list ds =>
      obtain ⟨l, xs, rfl, hx, ax⟩ := db_list n1.gh q1
      cases hk : keysOf ds with
      | stuck => exact absurd (show sortSetD (.list ds) = .stuck by rw [sortSetD_eq, hk]; rfl) h1
      | err y => exact absurd hk (keysOf_ne ds y)
      | ok ks =>
        by_cases hcnd : ks.length < 64 ∧ ((ks.all fun k => !k.isEmpty) = true ∨ ks.length ≤ 1)
        · obtain ⟨ps, rfl, rfl, htup⟩ := keys_at ax hk
          have hres : fUn sortSetD Fa ρ = .ok (.ol ((sortSet (ps.map (·.2))).map tupK)) := by
            unfold fUn
            rw [ed]
            show sortSetD (.list ds) = _
            rw [sortSetD_eq, hk, ok_bind, if_pos hcnd]
          rw [List.length_map] at hcnd
          refine ⟨l, ps, rfl, hx, fun q hq => tup_sqt (n1.gh _ _ (htup q hq)), hcnd.1, fun b L hb hsub hall => ?_⟩
          refine ⟨b, L, rfl, upd_same, fun q hq => tup_sqt ((Ex.new hb) _ _ (n1.gh _ _ (htup q (hsub q hq)))), ?_, ?_, fun L1 r hp hnd hr => ?_⟩
          · exact PySem.W.AllAlike.of fun q r => by unfold encQ; rw [PySem.W.alike]; exact PySem.W.alike_ints _ _
          · rcases hcnd.2 with z | z
            · refine .inl (PySem.W.Sortable.tuples' ?_)
              intro q hq
              have hq' := List.all_eq_true.mp z q.2 (List.mem_map.mpr ⟨q, hsub q hq, rfl⟩)
              unfold encQ
              cases hk2 : q.2 with
              | nil => rw [hk2] at hq'; simp at hq'
              | cons i k => exact ⟨_, _, rfl⟩
            · refine .inr fun q hq r hr => ?_
              have h2 := hsub q hq
              have h3 := hsub r hr
              match ps, z, h2, h3 with
              | [x], _, h2, h3 => rw [List.mem_singleton.mp h2, List.mem_singleton.mp h3]
          · have hsrt : (L1.mergeSort (PySem.W.dataLe false encQ)).map (·.2) = sortSet (ps.map (·.2)) := by
              have e0 : PySem.W.dataLe false encQ = fun p q : Addr × List Int => leT p.2 q.2 := dataLe_tups (fun q : Addr × List Int => q.2)
              rw [e0, List.map_mergeSort (s := leT) (fun _ _ _ _ => rfl)]
              refine sortSet_of hnd fun k => ?_
              constructor
              · intro hk2
                obtain ⟨q, hq, rfl⟩ := List.mem_map.mp hk2
                exact List.mem_map.mpr ⟨q, hsub q (hp.mem_iff.mp hq), rfl⟩
              · intro hk2
                obtain ⟨q, hq, rfl⟩ := List.mem_map.mp hk2
                obtain ⟨r, hr2, e⟩ := List.mem_map.mp (hall q hq)
                exact List.mem_map.mpr ⟨r, hp.mem_iff.mpr hr2, e⟩
            have nx := (n1.trans (Nx.hid (o := SetTO X.prog X.w b L) n1.gh hb)).trans (Nx.hid (o := .lst ((L1.mergeSort (PySem.W.dataLe false encQ)).map fun q => V.ref q.1)) (n1.gh.trans (Ex.new hb)) hr)
            refine ok _ hres G1 _ _ nx ⟨r, _, rfl, (n1.h.trans (Ex.new hb)).back hr, (n1.gh.trans (Ex.new hb)).back hr, upd_same, ?_⟩
            rw [← hsrt]
            exact dp_tups _ fun q hq => htup q (hsub q (hp.mem_iff.mp ((List.mergeSort_perm _ _).mem_iff.mp hq)))
        · exact absurd (show sortSetD (.list ds) = .stuck by rw [sortSetD_eq, hk, ok_bind, if_neg hcnd]) h1
    | _ => exact absurd rfl h1⟩
/-! ### a truth less another -/
def bsubD : PyData → PyData → Rs PyData
  | .bool a, .bool b => .ok (.int (PyProof.Rows.b2i a - PyProof.Rows.b2i b))
  | _, _ => .stuck
theorem opsem_bsub {c : Pc} : OpSem c (fun x y H Q => ∃ a b : Bool, x = .bl a ∧ y = .bl b ∧ Q (.int (PyProof.Rows.b2i a - PyProof.Rows.b2i b)) H) bsubD (RS c) where
  go := fun G H x y a b s e da db hs Q q => by
    unfold bsubD at hs
    split at hs
    · cases hs
      exact ⟨_, _, db_bl da, db_bl db, q G H _ (Nx.refl e) (.int _)⟩
    · cases hs
  ne := fun a b x h => by unfold bsubD at h; split at h <;> cases h
theorem js_bsub {ca : Nat → Addr} {X : Cx} {E : XK} {a b : Expr} {ta tb : TE} {Fa Fb : Env → Rs PyData} {pos : Pos} (ha : JB ca X E a ta Fa) (hb : JB ca X E b tb Fb) : JS ca X E (.BinOp a .Sub b pos) (tOp (fun x y H Q => ∃ a b : Bool, x = .bl a ∧ y = .bl b ∧ Q (.int (PyProof.Rows.b2i a - PyProof.Rows.b2i b)) H) ta tb) (fOp bsubD Fa Fb) := js_bin op_bsub opsem_bsub ha hb
end PF

namespace L2
namespace KV2
open PySem PySem.Spec PyProof.Rows
section
variable {X : Cx} {e : Expr} {te : TE} {p apos cpos pos : Pos}
/-- list(e.keys()), e a dict with tuple keys -/
def tListKeysT (te : TE) : TE := fun σ H Q => te σ H fun x H1 => ∃ (d : Addr) (kvs : List (List Key × V)), x = .ref d ∧ H1 d = some (.dT kvs) ∧ ∀ p bs, H1 p = none → IsKeys H1 kvs bs → Q (.ref p) (upd H1 p (.lst (bs.map V.ref)))
def tListValsT (te : TE) : TE := fun σ H Q => te σ H fun x H1 => ∃ (d : Addr) (kvs : List (List Key × V)), x = .ref d ∧ H1 d = some (.dT kvs) ∧ ∀ p, H1 p = none → Q (.ref p) (upd H1 p (.lst (kvs.map (·.2))))
theorem kt_vals {H : Hp} {kvs : List (List Key × V)} {xs : List (List Key × Addr × Value)} (r : KT H kvs xs) : Vals (kvs.map (·.2)) (xs.map fun x => x.2.2) := by
  induction r with
  | nil => exact .nil
  | cons h t ih => exact .cons h.2.2 ih
theorem pe_listKeysT (hc : X.calm = true) (he : PE X e te) (hg : Gl X "list") (hm : X.mg "list" = none) (hv : bootBuiltins "list" = some (.type "list") := by decide +kernel) (hbase : attributeBase e "keys" X.env (eval e X.env) = eval e X.env := by rfl) (hline : (apos.endLine == cpos.line) = true := by rfl)
    (hs : starEach [.Call (.Attribute e "keys" apos) [] [] cpos] X.env = (false, eval (.Call (.Attribute e "keys" apos) [] [] cpos) X.env) :: starEach [] X.env := by rfl) :
    PE X (.Call (.Name "list" p) [.Call (.Attribute e "keys" apos) [] [] cpos] [] pos) (tListKeysT te) := by
  refine ⟨fun pins s σ H Q I hq => ?_⟩
  refine wpAny_Call_Name_kw (ld_blt I hg hm hv ?_)
  refine PyProof.Rows.callWith_type1 ?_ hs rfl
  rw [hs]
  show wpAny _ _ (spliced ((false, eval (.Call (.Attribute e "keys" apos) [] [] cpos) X.env) :: backTo pos (starEach [] X.env))) _ _ s
  refine Calls.spliced_cons ?_
  refine wpAny_Call_method (T := "dict") (id := "dict.keys") hbase rfl hline F.plainAttrs_dict F.slot_dict_keys F.type_dict_keys (thn (he.run pins s σ H _ I hq) fun u s1 ⟨x, H1, I1, rx, d, kvs, ex, hd, q⟩ => ?_)
  subst ex
  obtain rfl : u = Value.ref d := rx
  obtain ⟨z, hsm, ks, pr, o, es, ep, ho, hx, hdt, hen, hn⟩ := (show ObjOk X.prog X.w H1 s1.heap d (.dT kvs) from I1.hok d _ hd)
  have l1 : es.size = ks.length := size_of_entries hen
  have l2 : kvs.length = ks.length := Paired.length pr
  have raw : s1.heap.DictRaw d es ep := ⟨o, ho, hx, hdt⟩
  obtain ⟨t1, t2, _⟩ := isD_at I1 (.inr ⟨kvs, .inl hd⟩)
  have I2 : Inv X pins σ H1 { s1 with heap := s1.heap.push { cls := .type "dict_keys", data := .fields #[.ref d] } } := I1.kept (t' := s1.toks) fun b ob q => Heap.get?_push_of_some _ q
  refine ⟨t1, t2, ?_⟩
  show wpAny _ _ (callWith cpos (.builtin "dict.keys") [.ref d] [] []) _ X.xe s1
  refine method_meetsIn F.slot_dict_keys F.entry_dict_keys rfl (PySem.evalArgs_none ⟨rfl, t1, F.args_dict_keys_1 _, _, meets_dict_keys_raw d hsm, ⟨es, ep, raw⟩, ?_⟩)
  refine Calls.spliced_nil ?_
  refine PySem.W.kdl_call (PySem.KdlSrc.rawKeys (r := s1.heap.objs.size) (d := d) (es := es) (ep := ep)) (I1.ok.hd hc) ⟨⟨_, Heap.get?_push_size _ rfl, rfl, rfl⟩, raw.push _⟩ (by omega) fun h' tk acc' c' kp e' it => ?_
  have ea : acc'.toList = ks.map fun x => Value.ref x.2.1 := by
    have hl : acc'.toList.length = ks.length := by rw [Array.length_toList, it.1]; exact l1
    apply List.ext_getElem?
    intro j
    rw [List.getElem?_map]
    cases hj : acc'.toList[j]? with
    | none =>
      have h1 := List.getElem?_eq_none_iff.mp hj
      rw [List.getElem?_eq_none (by omega)]
      all_goals rfl
    | some v =>
      obtain ⟨hi, hv'⟩ := it.2 j v (by rw [← Array.getElem?_toList]; exact hj)
      have qe := entry_at hen j
      rw [Array.getElem?_eq_getElem hi] at qe
      cases hb : ks[j]? with
      | none =>
        rw [hb] at qe
        exact nomatch (show some es[j] = none from qe)
      | some b =>
        rw [hb] at qe
        have e2 : es[j] = entryOfKey (tupleKind (mixKind X.prog X.w)) b := Option.some.inj qe
        rw [hv', e2]
        all_goals rfl
  have eb : acc'.toList = (ks.map fun x => x.2.1).map Value.ref := by rw [ea, List.map_map]; all_goals rfl
  have rv : Vals ((ks.map fun x => x.2.1).map V.ref) acc'.toList := by rw [eb]; exact vals_refs _
  have hz : ((ks.map fun x => x.2.1).map V.ref).length ≤ sizeLine := by rw [List.length_map, List.length_map]; omega
  refine ⟨.ref _, _, I2.laid (t' := tk) (o := .lst ((ks.map fun x => x.2.1).map V.ref)) kp (Nat.le_refl _) ?_, rfl, q _ _ (I2.hok.fresh (Nat.le_refl _)) (isKeys_of pr)⟩
  exact ⟨hz, acc'.toList, c', rv, by rw [Array.toArray_toList]; exact e'⟩
theorem pe_listValsT (hc : X.calm = true) (he : PE X e te) (hg : Gl X "list") (hm : X.mg "list" = none) (hv : bootBuiltins "list" = some (.type "list") := by decide +kernel) (hbase : attributeBase e "values" X.env (eval e X.env) = eval e X.env := by rfl) (hline : (apos.endLine == cpos.line) = true := by rfl)
    (hs : starEach [.Call (.Attribute e "values" apos) [] [] cpos] X.env = (false, eval (.Call (.Attribute e "values" apos) [] [] cpos) X.env) :: starEach [] X.env := by rfl) :
    PE X (.Call (.Name "list" p) [.Call (.Attribute e "values" apos) [] [] cpos] [] pos) (tListValsT te) := by
  refine ⟨fun pins s σ H Q I hq => ?_⟩
  refine wpAny_Call_Name_kw (ld_blt I hg hm hv ?_)
  refine PyProof.Rows.callWith_type1 ?_ hs rfl
  rw [hs]
  show wpAny _ _ (spliced ((false, eval (.Call (.Attribute e "values" apos) [] [] cpos) X.env) :: backTo pos (starEach [] X.env))) _ _ s
  refine Calls.spliced_cons ?_
  refine wpAny_Call_method (T := "dict") (id := "dict.values") hbase rfl hline F.plainAttrs_dict F.slot_dict_values F.type_dict_values (thn (he.run pins s σ H _ I hq) fun u s1 ⟨x, H1, I1, rx, d, kvs, ex, hd, q⟩ => ?_)
  subst ex
  obtain rfl : u = Value.ref d := rx
  obtain ⟨z, hsm, ks, pr, o, es, ep, ho, hx, hdt, hen, hn⟩ := (show ObjOk X.prog X.w H1 s1.heap d (.dT kvs) from I1.hok d _ hd)
  have l1 : es.size = ks.length := size_of_entries hen
  have l2 : kvs.length = ks.length := Paired.length pr
  have raw : s1.heap.DictRaw d es ep := ⟨o, ho, hx, hdt⟩
  obtain ⟨t1, t2, _⟩ := isD_at I1 (.inr ⟨kvs, .inl hd⟩)
  have I2 : Inv X pins σ H1 { s1 with heap := s1.heap.push { cls := .type "dict_values", data := .fields #[.ref d] } } := I1.kept (t' := s1.toks) fun b ob q => Heap.get?_push_of_some _ q
  refine ⟨t1, t2, ?_⟩
  show wpAny _ _ (callWith cpos (.builtin "dict.values") [.ref d] [] []) _ X.xe s1
  refine method_meetsIn F.slot_dict_values F.entry_dict_values rfl (PySem.evalArgs_none ⟨rfl, t1, F.args_dict_values_1 _, _, meets_dict_values_raw d hsm, ⟨es, ep, raw⟩, ?_⟩)
  refine Calls.spliced_nil ?_
  refine PySem.W.kdl_call (PySem.KdlSrc.rawValues (r := s1.heap.objs.size) (d := d) (es := es) (ep := ep)) (I1.ok.hd hc) ⟨⟨_, Heap.get?_push_size _ rfl, rfl, rfl⟩, raw.push _⟩ (by omega) fun h' tk acc' c' kp e' it => ?_
  have ea : acc'.toList = ks.map fun x => x.2.2 := by
    have hl : acc'.toList.length = ks.length := by rw [Array.length_toList, it.1]; exact l1
    apply List.ext_getElem?
    intro j
    rw [List.getElem?_map]
    cases hj : acc'.toList[j]? with
    | none =>
      have h1 := List.getElem?_eq_none_iff.mp hj
      rw [List.getElem?_eq_none (by omega)]
      all_goals rfl
    | some v =>
      obtain ⟨hi, hv'⟩ := it.2 j v (by rw [← Array.getElem?_toList]; exact hj)
      have qe := entry_at hen j
      rw [Array.getElem?_eq_getElem hi] at qe
      cases hb : ks[j]? with
      | none =>
        rw [hb] at qe
        exact nomatch (show some es[j] = none from qe)
      | some b =>
        rw [hb] at qe
        have e2 : es[j] = entryOfKey (tupleKind (mixKind X.prog X.w)) b := Option.some.inj qe
        rw [hv', e2]
        all_goals rfl
  have rv : Vals (kvs.map (·.2)) acc'.toList := by rw [ea]; exact kt_vals pr
  have hz : (kvs.map (·.2)).length ≤ sizeLine := by rw [List.length_map]; omega
  refine ⟨.ref _, _, I2.laid (t' := tk) (o := .lst (kvs.map (·.2))) kp (Nat.le_refl _) ?_, rfl, q _ (I2.hok.fresh (Nat.le_refl _))⟩
  exact ⟨hz, acc'.toList, c', rv, by rw [Array.toArray_toList]; exact e'⟩
end
end KV2
end L2
namespace PF
open PySem L2
/-! ### list(x.keys()), list(x.values()), x.get(k, d), x is None; x a dict of our own (or not) -/
open Classical in
noncomputable def showT (G : Hp) (H : Hp) (bs : List Addr) : Hp := fun a => if a ∈ bs then H a else G a
theorem showT_nx {G H : Hp} {bs : List Addr} (e : Ex G H) (h : ∀ b ∈ bs, ∃ xs, H b = some (.tup xs)) : Nx G H (showT G H bs) H ∧ ∀ b ∈ bs, showT G H bs b = H b := by
  refine ⟨⟨fun a u q => ?_, Ex.refl H, fun a u q => ?_, fun a ha ga => ?_⟩, fun b hb => by unfold showT; rw [if_pos hb]⟩
  · unfold showT
    by_cases hb : a ∈ bs
    · rw [if_pos hb]; exact e a u q
    · rw [if_neg hb]; exact q
  · unfold showT at q
    by_cases hb : a ∈ bs
    · rw [if_pos hb] at q; exact q
    · rw [if_neg hb] at q; exact e a u q
  · unfold showT
    by_cases hb : a ∈ bs
    · rw [if_pos hb]
      obtain ⟨xs, hx⟩ := h a hb
      exact .inr ⟨xs, hx⟩
    · rw [if_neg hb]
      exact .inl ga
theorem keys_dp {K : PySem.W.Frag} {G H : Hp} : ∀ {es : List (List Key × V)} {kvs : List (List Int × PyData)} {bs : List Addr}, es.map (·.1) = kvs.map (fun kv => kv.1.map Sum.inl) → IsKeys H es bs → (∀ b ∈ bs, G b = H b) → DpAll K G (bs.map V.ref) (kvs.map fun kv => tupK kv.1)
  | [], [], _, _, .nil, _ => .nil
  | [], _ :: _, _, h, _, _ => by simp at h
  | _ :: _, [], _, h, _, _ => by simp at h
  | e :: es, kv :: kvs, _, h, .cons (l₂ := bs) (b := b) q t, hg => by
    rw [List.map_cons, List.map_cons] at h
    obtain ⟨h1, h2⟩ := List.cons.inj h
    refine .cons (.tup (xs := kv.1.map V.int) ?_ (dp_ints kv.1)) (keys_dp h2 t fun c hc => hg c (List.mem_cons_of_mem _ hc))
    rw [hg b List.mem_cons_self, q, h1, List.map_map]
    rfl
theorem isKeys_tup {H : Hp} {es : List (List Key × V)} {bs : List Addr} (h : IsKeys H es bs) : ∀ b ∈ bs, ∃ xs, H b = some (.tup xs) := by
  unfold IsKeys at h
  induction h with
  | nil => exact fun _ h => nomatch h
  | cons q _ ih =>
    intro b hb
    rcases List.mem_cons.mp hb with rfl | hb
    · exact ⟨_, q⟩
    · exact ih b hb
def fKeys (i : Nat) : Env → Rs Sl := fun ρ => ownT ρ[i]? >>= fun kvs => .ok (.ol (kvs.map fun kv => tupK kv.1))
def fVals (i : Nat) : Env → Rs Sl := fun ρ => ownT ρ[i]? >>= fun kvs => .ok (.ol (kvs.map (·.2)))
def fDGetD (i : Nat) (Fk Fd : Env → Rs PyData) : Env → Rs PyData := fun ρ => ownT ρ[i]? >>= fun kvs => Fk ρ >>= fun kd => Fd ρ >>= fun d => keyOf kd >>= fun k => .ok ((getI kvs k).getD d)
def noS : Option Sl → Rs Bool
  | some (.sh d) => .ok (isNo d)
  | some (.ol _) => .ok false
  | some (.od _) => .ok false
  | _ => .stuck
def fNoV (i : Nat) : Env → Rs PyData := fun ρ => noS ρ[i]? >>= fun b => .ok (.bool b)
def fNotNoV (i : Nat) : Env → Rs PyData := fun ρ => noS ρ[i]? >>= fun b => .ok (.bool !b)
section
variable {ca : Nat → Addr} {X : Cx} {E : XK} {k d : Expr} {tk td : TE} {Fk Fd : Env → Rs PyData} {x : Str} {p p2 apos cpos pos : Pos} {j : Nat}
theorem jv_keys (i : Nat) (hx : PE X (.Name x p) (tVar i)) (hc : X.calm = true) (hm : X.mg "list" = none) (hg : Gl X "list" := by rfl) (hbase : attributeBase (.Name x p) "keys" X.env (eval (.Name x p) X.env) = eval (.Name x p) X.env := by rfl) (hline : (apos.endLine == cpos.line) = true := by rfl)
    (hs : starEach [.Call (.Attribute (.Name x p) "keys" apos) [] [] cpos] X.env = (false, eval (.Call (.Attribute (.Name x p) "keys" apos) [] [] cpos) X.env) :: starEach [] X.env := by rfl) :
    JV ca X E (.Call (.Name "list" p2) [.Call (.Attribute (.Name x p) "keys" apos) [] [] cpos] [] pos) (L2.KV2.tListKeysT (tVar i)) (fKeys i) :=
  ⟨L2.KV2.pe_listKeysT hc hx hg hm (hbase := hbase) (hline := hline) (hs := hs), fun G H ρ σ rep hns Q ok er => by
    obtain ⟨ds, hs⟩ := ownT_ok hns
    obtain ⟨o, e2, pp, es, rfl, gp, hp, qq⟩ := rep.sl i _ hs
    refine ⟨.ref pp, e2, pp, es, rfl, hp, fun r bs hr hk => ?_⟩
    obtain ⟨n1, n2⟩ := showT_nx rep.gh (isKeys_tup hk)
    have gr : showT G H bs r = none := n1.gh.back hr
    exact ok (.ol (ds.map fun kv => tupK kv.1)) (by unfold fKeys; rw [hs]; rfl) (showT G H bs) _ _ (n1.trans (Nx.hid n1.gh hr)) ⟨r, _, rfl, hr, gr, upd_same, keys_dp qq.1 hk n2⟩⟩
theorem jv_vals (i : Nat) (hx : PE X (.Name x p) (tVar i)) (hc : X.calm = true) (hm : X.mg "list" = none) (hg : Gl X "list" := by rfl) (hbase : attributeBase (.Name x p) "values" X.env (eval (.Name x p) X.env) = eval (.Name x p) X.env := by rfl) (hline : (apos.endLine == cpos.line) = true := by rfl)
    (hs : starEach [.Call (.Attribute (.Name x p) "values" apos) [] [] cpos] X.env = (false, eval (.Call (.Attribute (.Name x p) "values" apos) [] [] cpos) X.env) :: starEach [] X.env := by rfl) :
    JV ca X E (.Call (.Name "list" p2) [.Call (.Attribute (.Name x p) "values" apos) [] [] cpos] [] pos) (L2.KV2.tListValsT (tVar i)) (fVals i) :=
  ⟨L2.KV2.pe_listValsT hc hx hg hm (hbase := hbase) (hline := hline) (hs := hs), fun G H ρ σ rep hns Q ok er => by
    obtain ⟨ds, hs⟩ := ownT_ok hns
    obtain ⟨o, e2, pp, es, rfl, gp, hp, qq⟩ := rep.sl i _ hs
    refine ⟨.ref pp, e2, pp, es, rfl, hp, fun r hr => ?_⟩
    exact ok (.ol (ds.map (·.2))) (by unfold fVals; rw [hs]; rfl) G _ _ (Nx.hid rep.gh hr) ⟨r, _, rfl, hr, rep.gh.back hr, upd_same, qq.2⟩⟩
theorem js_getD (i : Nat) (hu : X.A.units + 64 < cLine) (hx : PE X (.Name x p) (tVar i)) (hk : JS ca X E k tk Fk) (hd : JS ca X E d td Fd) (m : M2 X (.Name x p) "get" apos k d cpos := by exact ⟨rfl, rfl, rfl, rfl⟩) : JS ca X E (.Call (.Attribute (.Name x p) "get" apos) [k, d] [] cpos) (tDGet2 (tVar i) tk td) (fDGetD i Fk Fd) := by
  refine ⟨pe_dget2 (by omega) hx hk.pe hd.pe m, fun G H ρ σ rep hns Q ok er => ?_⟩
  obtain ⟨ds, hs⟩ := ownT_ok hns
  have e0 : fDGetD i Fk Fd ρ = (Fk ρ >>= fun kd => Fd ρ >>= fun d => keyOf kd >>= fun k => .ok ((getI ds k).getD d)) := by unfold fDGetD; rw [hs]; rfl
  rw [e0] at hns er
  obtain ⟨o, e2, pp, es, rfl, gp, hp, qq⟩ := rep.sl i _ hs
  refine ⟨.ref pp, e2, pp, rfl, .inr ⟨es, .inl hp⟩, ?_⟩
  refine hk.sem.use rep hns er fun kd ek e3 G2 H2 w n2 r2 q2 h2 er2 => ?_
  refine hd.sem.use r2 h2 er2 fun dd ed e4 G3 H3 u n3 r3 q3 h3 er3 => ?_
  obtain ⟨o', e5, p', es', z, gp3, hp3, qq3⟩ := r3.sl i _ hs
  rw [e2] at e5
  cases e5
  cases z
  cases hko : keyOf kd with
  | stuck => exact absurd (by rw [hko]; rfl) h3
  | err y => exact absurd hko keyOf_ne
  | ok kk =>
    obtain ⟨b, rfl, hb⟩ := key_at (show Dp X.K G2 w kd from q2) hko
    have q3' : Dp X.K G3 u dd := q3
    refine ⟨valV es' (kk.map Sum.inl), DGet.t hp3 (n3.h _ _ (n2.gh _ _ hb)), ?_⟩
    have hres : fDGetD i Fk Fd ρ = .ok ((getI ds kk).getD dd) := by rw [e0, ek, ok_bind, ed, ok_bind, hko, ok_bind]
    rcases kv_get kk qq3 with ⟨g1, g2⟩ | ⟨v, d', g1, g2, g3⟩
    · rw [g1]
      exact ok dd (by rw [hres, g2]; rfl) G3 H3 u (n2.trans n3) q3'
    · rw [g1]
      exact ok d' (by rw [hres, g2]; rfl) G3 H3 v (n2.trans n3) g3
theorem sem_noV {c : Pc} (i : Nat) : SemG c E (tOp (fun x y H Q => y = .non ∧ Q (.bl (decide (x = .non))) H) (tVar i) (tC .non)) (fNoV i) (RS c) := by
  intro G H ρ σ rep hns Q ok er
  unfold fNoV at hns ok
  cases hs : ρ[i]? with
  | none => rw [hs] at hns; exact absurd rfl hns
  | some s =>
    rw [hs] at hns ok
    obtain ⟨o, e1, q⟩ := rep.sl i s hs
    cases s with
    | no => exact absurd rfl hns
    | exn x => exact absurd rfl hns
    | hal _ _ => exact absurd rfl hns
    | ol ds =>
      obtain ⟨p, xs, rfl, _⟩ := q
      exact ⟨_, e1, rfl, ok _ rfl G H _ (Nx.refl rep.gh) (.bl _)⟩
    | od ds =>
      obtain ⟨p, xs, rfl, _⟩ := q
      exact ⟨_, e1, rfl, ok _ rfl G H _ (Nx.refl rep.gh) (.bl _)⟩
    | sh d =>
      obtain ⟨v, rfl, q⟩ := q
      refine ⟨v, e1, rfl, ?_⟩
      rw [db_isNo (H := H) (.inl q)]
      exact ok _ rfl G H _ (Nx.refl rep.gh) (.bl _)
theorem js_noV (i : Nat) (h : PE X (.Name x p) (tVar i)) : JS ca X E (.Compare (.Name x p) [.Is] [.Constant .none j p2] pos) (tOp (fun x y H Q => y = .non ∧ Q (.bl (decide (x = .non))) H) (tVar i) (tC .non)) (fNoV i) :=
  ⟨pe_cmpR op_isN h pe_non (nomark _), sem_noV i⟩
theorem jt_noV (i : Nat) (h : PE X (.Name x p) (tVar i)) : JT ca X E (.Compare (.Name x p) [.Is] [.Constant .none j p2] pos) (tTest (tOp (fun x y H Q => y = .non ∧ Q (.bl (decide (x = .non))) H) (tVar i) (tC .non))) (fB (fNoV i)) :=
  ⟨pt_cmpR op_isN h pe_non (nomark _), sem_test (sem_noV i)⟩
end
end PF

namespace PF
open PySem L2
/-! an expression as a statement: what it tells is dropped -/
def fExp (F : Env → Rs Sl) : Env → Rs Out := fun ρ => F ρ >>= fun _ => .ok (.nx ρ)
section
variable {ca : Nat → Addr} {X : Cx} {E : XK} {e : Expr} {te : TE} {F : Env → Rs Sl} {pos : Pos}
theorem sem_exp {c : Pc} (h : SemG c E te F (RV c)) : SemP c E (tDrop te) (fExp F) := by
  intro G0 H0 G H ρ σ rep en hns D nx rt er
  refine h.use rep hns (fun x e G' H' cl dd n => er x e G' H' cl dd (en.nx.trans n)) fun s es e1 G' H' v n r _ hk _ => ?_
  exact nx _ e1 G' H' _ r (en.go n)
theorem jp_exp (h : JV ca X E e te F) (hs : swapsWith e none pos.line X.env = pure false := by rfl) : JP ca X E (.Expr e pos) (tDrop te) (fExp F) :=
  ⟨ps_expr h.pe hs, sem_exp h.sem⟩
end
end PF

namespace PF
open PySem L2
/-! ### NoWall(e).place, an error made and not raised -/
section
variable {ca : Nat → Addr} {X : Cx} {E : XK}
def tNewP (C : Addr) (te : TE) : TE := fun σ H Q => tMkO C (spIni C) [] (tCons te tNil) σ H fun cls d H' => ∃ (dd : Addr) (i : Int), cls = .ref C ∧ d = some dd ∧ H' dd = some (.xd [(("place" : Str), .int i)]) ∧ Q (.int i) H'
def fNewP (F : Env → Rs PyData) : Env → Rs PyData := fun ρ => F ρ >>= fun d => intOf d >>= fun i => .ok (.int i)
theorem js_newP {x : Str} {e : Expr} {te : TE} {Fe : Env → Rs PyData} {p pos pos2 : Pos} (T : EX X.K X.mg ca) (N : NW X.prog X.w X.K X.mg X.base ca) (no : PySem.W.findIn X.K (.ref (ca 5)) "place" = some none) (hr : Room 2 X.A) (he : JS ca X E e te Fe) (hg : Gl X x := by rfl) (hx : eNm 5 = x := by rfl)
    (hb : attributeBase (.Call (.Name x p) [e] [] pos) "place" X.env (eval (.Call (.Name x p) [e] [] pos) X.env) = eval (.Call (.Name x p) [e] [] pos) X.env := by rfl)
    (hdb : (x == ("__debug__" : Str)) = false := by decide) (hst : starEach [e] X.env = (false, eval e X.env) :: starEach [] X.env := by rfl) (hpl : (backTo pos (starEach [] X.env)).any (·.1) = false := by rfl) :
    JS ca X E (.Attribute (.Call (.Name x p) [e] [] pos) "place" pos2) (tNewP (ca 5) te) (fNewP Fe) := by
  have c := T.cl 5 (by decide)
  have c' := c
  rw [hx] at c
  obtain ⟨fI, fd, iC, tI, F1, hbi⟩ := N.fn
  have pmk : PMk X (.Call (.Name x p) [e] [] pos) (tMkO (ca 5) (spIni (ca 5)) [] (tCons te tNil)) := pmk_oex N.T iC tI F1 hr hbi .nil passL hg c.g (pa_cons he.pe pa_nil hst) hdb hst hpl
  refine ⟨⟨fun pins s σ H Q I h => ?_⟩, fun G H ρ σ rep hns Q ok er => ?_⟩
  · refine attr_of hb (thn (pmk pins s σ H _ I h) fun u s1 hh => ?_)
    obtain ⟨a, oe, vs, sI, H', cls, d, rfl, J, kG, ga, ge, hz, hdat, hv1, na, hos, hbare, hR, dd, i, rfl, rfl, hdd, q⟩ := hh
    have J1 : Inv X pins σ H' s1 := J.call' (ch := []) hos (Un.kept kG) (J.hok.kept kG) hbare (fun b z => nomatch z)
    obtain ⟨mA, hns, hrr⟩ := (show ObjOk X.prog X.w H' s1.heap dd (.xd [(("place" : Str), .int i)]) from J1.hok dd _ hdd)
    obtain ⟨od, ho, hl⟩ := lookIn_ns hns
    have l : List.lookup ("place" : Str) [(("place" : Str), V.int i)] = some (V.int i) := by simp [List.lookup]
    obtain ⟨u, hu, ru⟩ := RelO.some_of (v := .int i) (o := mA "place") (by rw [← l]; exact hrr "place")
    have J2 : PySem.W.InstAt s1.heap a oe (ca 5) (some od) := ⟨ge, hz.1, by unfold PySem.W.notCls; rw [hdat] <;> rfl, by rw [hz.2]; exact ho⟩
    exact HandSPX.exc_get J1.kIn J2 c'.ga c'.gg c'.b (PySem.W.findObj_own c'.hd no rfl (by rw [hl, hu])) (handed_of ru) ⟨.int i, H', J1.tok _, ru, q⟩
  · refine he.sem.use rep hns er fun d ed e1 G1 H1 v n1 r1 q1 hk er1 => ?_
    cases d with
    | int i =>
      cases Dp.int_v q1
      refine ⟨(by show 1 ≤ 1000; decide), fun a ha => ⟨a, i, rfl, upd_same, fun dx h1 h2 => ⟨rfl, dx, [(("place" : Str), .int i)], upd_same, ?_, ?_, ?_⟩⟩⟩
      · rw [upd_ne h2, upd_same]
      · rw [upd_ne h2] at h1
        exact h1
      · have hdx : H1 dx = none := by
          rw [upd_ne h2] at h1
          exact h1
        have fe : upd (L2.del (upd (upd (upd H1 a (exo a (ca 5) none)) dx (exd dx [(("place" : Str), .int i)])) a (exo a (ca 5) (some dx))) a) dx (.xd [(("place" : Str), .int i)]) = upd H1 dx (.xd [(("place" : Str), .int i)]) := by
          funext b
          by_cases hb : b = dx
          · rw [hb, upd_same, upd_same]
          · rw [upd_ne hb, upd_ne hb]
            by_cases hba : b = a
            · rw [hba, L2.del_same, ha]
            · rw [L2.del_ne hba, upd_ne hba, upd_ne hb, upd_ne hba]
        rw [fe]
        exact ⟨dx, i, rfl, rfl, upd_same, ok (.int i) e1 G1 _ _ (n1.trans (Nx.hid n1.gh hdx)) (.int i)⟩
    | none => exact absurd rfl hk
    | bool i => exact absurd rfl hk
    | str i => exact absurd rfl hk
    | list i => exact absurd rfl hk
    | tuple i => exact absurd rfl hk
    | dict i => exact absurd rfl hk
end
end PF

namespace L2
namespace KV3
open PySem PySem.Spec PyProof.Rows
/-! ### for k, v in d.items(), d a locked dict with tuple keys -/
def ItiT (d : Addr) (o : Obj) (kvs : List (List Key × V)) : It :=
  ⟨fun i H => H d = some (.frz o (.dT kvs)) ∧ i < kvs.length, fun i H x H' => ∃ T k v q, kvs[i]? = some (k, v) ∧ x = .ref T ∧ H T = none ∧ H q = some (.tup (k.map kV)) ∧ H' = upd H T (.tup [.ref q, v]), fun i H => H d = some (.frz o (.dT kvs)) ∧ kvs.length ≤ i⟩
theorem frzT2 {X : Cx} {pins : List (Addr × Obj)} {σ : St} {H : Hp} {s : Shared} {d : Addr} {o : Obj} {kvs : List (List Key × V)} (I : Inv X pins σ H s) (h : H d = some (.frz o (.dT kvs))) :
    (d == sysModules) = false ∧ s.heap.get? d = some o ∧ o.ExactDict ∧ ∃ (es : Array DictEntry) (ep : Nat), o.data = .dict es ep ∧ es.size = kvs.length ∧
      ∀ (i : Nat) (k : List Key) (v : V), kvs[i]? = some (k, v) → ∃ (en : DictEntry) (q : Addr), es[i]? = some en ∧ en.key = .ref q ∧ H q = some (.tup (k.map kV)) ∧ RelV v en.val := by
  obtain ⟨hd, z, hs, xs, pr, o', es, ep, ho, hx, hdt, he, _⟩ := I.hok d _ h
  rw [hd] at ho
  cases ho
  refine ⟨hs, hd, hx, es, ep, hdt, ?_, fun i k v e => ?_⟩
  · have l1 : es.size = xs.length := size_of_entries he
    have l2 : kvs.length = xs.length := Paired.length pr
    omega
  · obtain ⟨b, hb, e1, e2, e3⟩ := paired_get pr e
    have q := entry_at he i
    rw [hb] at q
    exact ⟨_, b.2.1, q, rfl, e2, e3⟩
section
variable {P : Program} {w : World} {K : PySem.W.Frag} {d : Addr} {o : Obj} {es : Array DictEntry} {ep : Nat}
theorem turn_itemsT {kvs : List (List Key × V)} {elts : List Expr} {kk : Nat} {tpos : Pos} (it : Addr) (hod : o.data = .dict es ep) :
    Turn P w K (.Tuple elts kk tpos) (ItiT d o kvs) [it] it (fun i h => ∃ ok ov, IsItemIter h it d i kvs.length ep ok ov) where
  mem := by simp
  obj := fun i h st b hb => by
    have e : b = it := by simpa using hb
    subst e
    obtain ⟨ok, ov, e⟩ := st
    exact ⟨_, e, fun v z => nomatch z⟩
  keep := fun i h h' st k => let ⟨ok, ov, e⟩ := st; ⟨ok, ov, k it (by simp) _ e⟩
  item := by
    intro X hP hw hK hc i pins s σ H E I hf st hg
    subst hP hw hK
    obtain ⟨hd, hi⟩ := hg
    obtain ⟨hs, hgd, hx, es', ep', hdt, hsz, ent⟩ := frzT2 I hd
    obtain ⟨rfl, rfl⟩ := dict_ep hod hdt
    obtain ⟨⟨k, v⟩, hkv⟩ : ∃ p, kvs[i]? = some p := ⟨kvs[i], List.getElem?_eq_getElem hi⟩
    obtain ⟨en, q, hen, hkey, hq, hv⟩ := ent i k v hkv
    obtain ⟨ok, ov, he⟩ := st
    have hie : i < es'.size := by omega
    have hen' : es'[i] = en := by
      rw [Array.getElem?_eq_getElem hie] at hen
      exact Option.some.inj hen
    have he' : IsItemIter s.heap it d i es'.size ep' ok ov := by rw [hsz]; exact he
    have hlt : it < s.heap.objs.size := Heap.lt_size he
    refine wpAny_pyNext_items_item_raw he' ⟨_, hgd, hx, hdt⟩ hie fun h' ho hT hz hk => ?_
    rw [hen'] at ho hT
    refine ⟨_, rfl, wpAny_letOwnedTupleGo_items (s := { s with heap := h' }) ho fun h'' he' sb => ?_⟩
    have hT2 : h''.get? s.heap.objs.size = some { cls := .type "tuple", data := .seq #[en.key, en.val] } := (sb.2 _ (Nat.ne_of_gt hlt)).trans hT
    have new : ObjOk X.prog X.w (upd H s.heap.objs.size (.tup [.ref q, v])) h'' s.heap.objs.size (.tup [.ref q, v]) :=
      ⟨by show 2 ≤ sizeLine; decide, [en.key, en.val], .cons hkey (.cons hv .nil), ⟨_, hT2, rfl, _, rfl⟩⟩
    have I1 : Inv X pins σ (upd H s.heap.objs.size (.tup [.ref q, v])) { s with heap := h'' } :=
      I.turnedNew (t' := s.toks) (ch := [it]) (fun b ob hb e => (sb.2 b (by simpa using hb)).trans (hk b ob (by simpa using hb) e)) hf (Nat.le_refl _) new
    refine ⟨.ref s.heap.objs.size, _, I1, rfl, ⟨_, k, v, q, hkv, rfl, I.hok.fresh (Nat.le_refl _), hq, rfl⟩, ⟨en.key, en.val, ?_⟩, fun b hb => ?_⟩
    · rw [← hsz]; exact he'
    · have e : b = it := by simpa using hb
      rw [e, upd_ne (Nat.ne_of_lt hlt)]
      exact (hf it (by simp)).1
  done := by
    intro X hP hw hK hc i pins s σ H E I hf st hg
    subst hP hw hK
    obtain ⟨hd, hi⟩ := hg
    obtain ⟨f0, f1, f2, f3, f4, f5⟩ := hf it (by simp)
    obtain ⟨hs, hgd, hx, es', ep', hdt, hsz, ent⟩ := frzT2 I hd
    obtain ⟨rfl, rfl⟩ := dict_ep hod hdt
    obtain ⟨ok, ov, he⟩ := st
    have he' : IsItemIter s.heap it d i es'.size ep' ok ov := by rw [hsz]; exact he
    exact wpAny_pyNext_items_end_raw (I.ok.hd hc) he' ⟨_, hgd, hx, hdt⟩ (by omega) fun h' eb => ⟨rfl, I.turned (t' := s.toks) (fun b ob hb e => eb b ob hb e) f0 f1 f3 f4 f5⟩
  self := fun A i s Q E st h => let ⟨_, _, e⟩ := st; PySem.W.kcp_self e h
end
def iItemsT (td : TE) : TI := fun σ H R => td σ H fun x H1 => ∃ d o kvs, x = .ref d ∧ H1 d = some (.frz o (.dT kvs)) ∧ R (ItiT d o kvs) H1
section
variable {X : Cx} {e : Expr} {td : TE} {apos cpos : Pos}
theorem pi_itemsT {elts : List Expr} {kk : Nat} {tpos : Pos} (he : PE X e td) (hbase : attributeBase e "items" X.env (eval e X.env) = eval e X.env := by rfl) (hline : (apos.endLine == cpos.line) = true := by rfl) :
    PI X (.Tuple elts kk tpos) (.Call (.Attribute e "items" apos) [] [] cpos) (iItemsT td) := by
  refine ⟨fun pins s σ H R I h => ?_⟩
  refine wpAny_Call_method (T := "dict") (id := "dict.items") hbase rfl hline F.plainAttrs_dict F.slot_dict_items F.type_dict_items (thn (he.run pins s σ H _ I h) fun u s1 ⟨x, H1, I1, rx, d, o, kvs, ex, hd, q⟩ => ?_)
  subst ex
  obtain rfl : u = Value.ref d := rx
  obtain ⟨hs, hgd, hx, es, ep, hdt, hsz, ent⟩ := frzT2 I1 hd
  have raw : s1.heap.DictRaw d es ep := ⟨o, hgd, hx, hdt⟩
  refine ⟨raw.typeIs, fun b q => by cases q; exact ⟨o, hgd, hx.2.1⟩, ?_⟩
  have I2 : Inv X pins σ H1 { s1 with heap := s1.heap.push { cls := .type "dict_items", data := .fields #[.ref d] } } := I1.kept (t' := s1.toks) fun b ob q => Heap.get?_push_of_some _ q
  have fin : wpAny (model X.prog X.w) X.A (pyIter (.ref s1.heap.objs.size)) (PIE X pins σ (.Tuple elts kk tpos) R) X.xe { s1 with heap := s1.heap.push { cls := .type "dict_items", data := .fields #[.ref d] } } := by
    refine wpAny_pyIter_items_raw (d := d) (es := es) (ep := ep) ⟨_, Heap.get?_push_size _ rfl, rfl, rfl⟩ (raw.push _) (pi_one (tk := s1.toks) I2 _ (turn_itemsT _ hdt) ⟨.none, .none, ?_⟩ q)
    rw [← hsz]
    exact Heap.get?_push_size _ rfl
  show wpAny _ _ (callWith cpos (.builtin "dict.items") [.ref d] [] []) _ X.xe s1
  exact method_meetsIn F.slot_dict_items F.entry_dict_items rfl (PySem.evalArgs_none ⟨rfl, raw.typeIs, F.args_dict_items_1 _, _, meets_dict_items_raw d hs, ⟨es, ep, raw⟩, fin⟩)
end
end KV3
end L2
namespace PF
open PySem L2
/-! ### a comprehension over the items of a dict of our own -/
def itemD (kv : List Int × PyData) : PyData := pairD (tupK kv.1) kv.2
def fLcD (i : Nat) (T : Tgt) (C : Env → Rs Bool) (F : Env → Rs PyData) (vs : List Nat) : Env → Rs Sl := fun ρ => ownT ρ[i]? >>= fun kvs => fLcS (fun _ => .ok (kvs.map itemD)) T C F vs (ρ.set i .no)
theorem rep_lock {c : Pc} {G H : Hp} {ρ : Env} {σ : L2.St} {i : Nat} {pp : Addr} {s0 : Sl} {u : HO} (r : Rep c G H ρ σ) (hs : ρ[i]? = some s0) (ho : s0.own = true) (hσ : σ[i]? = some (some (.ref pp))) (gp : G pp = none) : Rep c G (upd H pp u) (ρ.set i .no) σ := by
  refine ⟨fun a o h => by rw [upd_ne (ne_of_none h gp)]; exact r.gh a o h, by rw [List.length_set, r.len], fun j s e => ?_, fun j k s s' p e1 e2 w1 w2 f1 f2 => ?_⟩
  · rw [List.getElem?_set] at e
    by_cases hij : i = j
    · subst hij
      exact ⟨_, hσ, by
        split at e
        · split at e
          · cases e; trivial
          · cases e
        · rename_i hne; exact absurd rfl hne⟩
    · rw [if_neg hij] at e
      obtain ⟨o, e1, q⟩ := r.sl j s e
      refine ⟨o, e1, ?_⟩
      have nep : ∀ p, s.own = true → o = some (.ref p) → p ≠ pp := fun p hw eo hp => by
        subst hp
        exact hij (r.inj i j s0 s p hs e ho hw hσ (by rw [e1, eo]))
      cases s with
      | no => trivial
      | sh d => exact q
      | ol ds => obtain ⟨p, xs, eo, g1, h1, q⟩ := q; exact ⟨p, xs, eo, g1, by rw [upd_ne (nep p rfl eo)]; exact h1, q⟩
      | od kvs => obtain ⟨p, es, eo, g1, h1, q⟩ := q; exact ⟨p, es, eo, g1, by rw [upd_ne (nep p rfl eo)]; exact h1, q⟩
      | exn x => exact q
      | hal m ds => obtain ⟨b, dx, t, eo, g1, h1, q⟩ := q; exact ⟨b, dx, t, eo, g1, by rw [upd_ne (fun w => r.nhal hs ho hσ _ _ _ (w ▸ h1))]; exact h1, q⟩
  · have key : ∀ (m : Nat) (w : Sl), (ρ.set i .no)[m]? = some w → w.own = true → ρ[m]? = some w := fun m w e hw => by
      rw [List.getElem?_set] at e
      split at e
      · split at e
        · cases e; cases hw
        · cases e
      · exact e
    exact r.inj j k s s' p (key j s e1 w1) (key k s' e2 w2) w1 w2 f1 f2
theorem kv_at {K : PySem.W.Frag} {G : Hp} {es : List (List Key × V)} {kvs : List (List Int × PyData)} (h : KvOk K G es kvs) {j : Nat} {k : List Key} {v : V} (e : es[j]? = some (k, v)) : ∃ kv, kvs[j]? = some kv ∧ k = kv.1.map Sum.inl ∧ Dp K G v kv.2 := by
  obtain ⟨h1, h2⟩ := h
  have e2 : (es.map (·.2))[j]? = some v := by rw [List.getElem?_map, e]; rfl
  obtain ⟨d, hd, q⟩ := DpAll.get h2 e2
  rw [List.getElem?_map] at hd
  obtain ⟨kv, hkv, rfl⟩ := Option.map_eq_some_iff.mp hd
  refine ⟨kv, hkv, ?_, q⟩
  have e3 := congrArg (fun l => l[j]?) h1
  simp only [List.getElem?_map, e, hkv, Option.map_some] at e3
  exact Option.some.inj e3
theorem walkd_items {c : Pc} {G H : Hp} {pp : Addr} {od : Obj} {es : List (List Key × V)} {kvs : List (List Int × PyData)} (h : KvOk c.K G es kvs) (hp : H pp = some (.frz od (.dT es))) : WalkD c true G H (L2.KV3.ItiT pp od es) (kvs.map itemD) := by
  have hl : es.length = kvs.length := by
    have := congrArg List.length h.1
    rwa [List.length_map, List.length_map] at this
  refine ⟨fun H => H pp = some (.frz od (.dT es)), fun G2 H2 z1 z2 z3 => z3 rfl _ _ hp, fun j H hj g => ⟨g, by rw [List.length_map] at hj; omega⟩, fun H g => ⟨g, by rw [List.length_map]; omega⟩, fun j G2 H2 x H3 d hd g z1 z2 hy => ?_⟩
  obtain ⟨T, k, v, q, hk, rfl, hT, hq, e3⟩ := hy
  obtain ⟨kv, hkv, rfl, hv⟩ := kv_at h hk
  rw [List.getElem?_map, hkv] at hd
  cases hd
  have hts : ∀ b ∈ [q], ∃ xs, H2 b = some (.tup xs) := fun b hb => by
    rw [List.mem_singleton.mp hb]; exact ⟨_, hq⟩
  obtain ⟨n1, n2⟩ := showT_nx z2 hts
  have dk : Dp c.K (showT G2 H2 [q]) (.ref q) (tupK kv.1) := .tup (xs := kv.1.map V.int) (by
    rw [n2 q List.mem_cons_self, hq, List.map_map]; rfl) (dp_ints kv.1)
  obtain ⟨G', m, dm⟩ := pair_new n1.gh hT e3 dk (Dp.ex n1.g (Dp.ex z1 hv))
  exact ⟨G', n1.trans m, dm⟩
theorem sem_lcD {c : Pc} {E : XK} {g : TG} {tt : TT} {te : TE} {T : Tgt} {L vs : List Nat} {C : Env → Rs Bool} {F : Env → Rs PyData} (i : Nat) (hg : SemTG c g T L) (ht : SemG c E0 tt C RT) (he : SemG c E0 te F (RS c))
    (hL : ∀ i ∈ L, i ∈ vs) : SemG c E (tLockE (tLc (L2.KV3.iItemsT (tVar i)) g tt te vs)) (fLcD i T C F vs) (RV c) := by
  intro G H ρ σ rep hns Q ok er
  obtain ⟨kvs, hs⟩ := ownT_ok hns
  have e0 : fLcD i T C F vs ρ = fLcS (fun _ => .ok (kvs.map itemD)) T C F vs (ρ.set i .no) := by unfold fLcD; rw [hs]; rfl
  rw [e0] at hns ok
  obtain ⟨o, e2, pp, es, rfl, gp, hp, qq⟩ := rep.sl i _ hs
  refine ⟨pp, .dT es, hp, trivial, fun od => ?_⟩
  unfold fLcS at hns ok
  cases hr : fLc (fun _ => .ok (kvs.map itemD)) T C F vs (ρ.set i .no) with
  | stuck => rw [hr] at hns; exact absurd rfl hns
  | err x => rw [hr] at hns; exact absurd rfl hns
  | ok r =>
    rw [hr] at ok
    refine lc_semAt (E := E) hg ht he hL G (upd H pp (.frz od (.dT es))) (ρ.set i .no) σ (fun R h1 h2 => ⟨.ref pp, e2, pp, od, es, rfl, upd_same, h1 _ rfl G _ _ (Nx.refl fun a u h => by rw [upd_ne (ne_of_none h gp)]; exact rep.gh a u h) (walkd_items qq upd_same)⟩) (rep_lock rep hs rfl e2 gp) ⟨r, hr⟩ _ fun a ea G' H' v n q => ?_
    have hpp := n.h _ _ (upd_same (H := H) (a := pp) (o := .frz od (.dT es)))
    have g' : G' pp = none := by
      rcases n.fr pp (by rw [upd_same]; exact fun z => nomatch z) gp with k | ⟨xs, k⟩
      · exact k
      · have := n.gh _ _ k
        rw [hpp] at this
        cases this
    refine ⟨hpp, ok a (by rw [hr] at ea; exact ea) G' _ v ⟨n.g, fun b u h => ?_, fun b u h => ?_, fun b hb gb => ?_⟩ ?_⟩
    · by_cases hbp : b = pp
      · subst hbp
        rw [upd_same, ← hp]; exact h
      · rw [upd_ne hbp]
        exact n.h b u (by rw [upd_ne hbp]; exact h)
    · rw [upd_ne (ne_of_none h g')]
      exact n.gh b u h
    · refine n.fr b ?_ gb
      by_cases hbp : b = pp
      · rw [hbp, upd_same]; exact fun z => nomatch z
      · rw [upd_ne hbp]; exact hb
    · have nul : ∀ p, upd H pp (.frz od (.dT es)) p = none → p ≠ pp ∧ H p = none := fun p hn => by
        have hpne : p ≠ pp := fun z => by rw [z, upd_same] at hn; cases hn
        exact ⟨hpne, by rwa [upd_ne hpne] at hn⟩
      cases a with
      | no => exact q
      | sh d => exact q
      | ol ds =>
        obtain ⟨p, xs, e, h1, g1, h2, h3⟩ := q
        obtain ⟨k1, k2⟩ := nul p h1
        exact ⟨p, xs, e, k2, g1, by rw [upd_ne k1]; exact h2, h3⟩
      | od kv =>
        obtain ⟨p, xs, e, h1, g1, h2, h3⟩ := q
        obtain ⟨k1, k2⟩ := nul p h1
        exact ⟨p, xs, e, k2, g1, by rw [upd_ne k1]; exact h2, h3⟩
      | exn x => exact q
      | hal _ _ => exact q
section
variable {ca : Nat → Addr} {X : Cx} {E : XK}
theorem jv_lcD {elt : Expr} {elts : List Expr} {kk : Nat} {tpos : Pos} {ifs : List Expr} {scope : Scope} {own : List (Str × Nat)} {pos p apos cpos : Pos} {x : Str} {g : Shared → Hp → Addr → List (Str × Addr) → List Addr → TG} {tt : Shared → Hp → Addr → List (Str × Addr) → List Addr → TT} {te : Shared → Hp → Addr → List (Str × Addr) → List Addr → TE} {T : Tgt} {L : List Nat} {C : Env → Rs Bool} {F : Env → Rs PyData} (hc : X.calm = true) (hN : X.N.Nodup) (i : Nat) (hx : PE X (.Name x p) (tVar i)) (ok : BlkOk X.N X.env.scope scope own)
    (hg : ∀ (s : Shared) (H : Hp) (D : Addr) (cl : List (Str × Addr)) (fp : List Addr), JG ca (X.blk s H scope (compEnvC scope cl D X.env) fp) (.Tuple elts kk tpos) (g s H D cl fp) T L) (ht : ∀ (s : Shared) (H : Hp) (D : Addr) (cl : List (Str × Addr)) (fp : List Addr), JC ca (X.blk s H scope (compEnvC scope cl D X.env) fp) E0 ifs (tt s H D cl fp) C)
    (he : ∀ (s : Shared) (H : Hp) (D : Addr) (cl : List (Str × Addr)) (fp : List Addr), JS ca (X.blk s H scope (compEnvC scope cl D X.env) fp) E0 elt (te s H D cl fp) F) (hL : ∀ i ∈ L, i ∈ own.map (·.2)) (s0 : Shared) (H0 : Hp) (hs : ∀ x1, foldedSetIterable (.Call (.Attribute (.Name x p) "items" apos) [] [] cpos) X.env x1 = pure x1 := by intro _; rfl)
    (qg : ∀ s H D cl fp, g s H D cl fp = g s0 H0 0 [] [] := by intro _ _ _ _ _; rfl) (qt : ∀ s H D cl fp, tt s H D cl fp = tt s0 H0 0 [] [] := by intro _ _ _ _ _; rfl) (qe : ∀ s H D cl fp, te s H D cl fp = te s0 H0 0 [] [] := by intro _ _ _ _ _; rfl)
    (hbase : attributeBase (.Name x p) "items" X.env (eval (.Name x p) X.env) = eval (.Name x p) X.env := by rfl) (hline : (apos.endLine == cpos.line) = true := by rfl) :
    JV ca X E (.ListComp elt [⟨.Tuple elts kk tpos, .Call (.Attribute (.Name x p) "items" apos) [] [] cpos, ifs, 0⟩] scope pos) (tLockE (tLc (L2.KV3.iItemsT (tVar i)) (g s0 H0 0 [] []) (tt s0 H0 0 [] []) (te s0 H0 0 [] []) (own.map (·.2)))) (fLcD i T C F (own.map (·.2))) :=
  ⟨pe_lock (pe_lc hc hN (L2.KV3.pi_itemsT hx hbase hline) ok (fun s H C cl fp => by rw [← qg s H C cl fp]; exact (hg s H C cl fp).pg) (fun s H C cl fp => by rw [← qt s H C cl fp]; exact (ht s H C cl fp).pts) (fun s H C cl fp => by rw [← qe s H C cl fp]; exact (he s H C cl fp).pe) hs),
    sem_lcD i (hg s0 H0 0 [] []).sem (ht s0 H0 0 [] []).sem (he s0 H0 0 [] []).sem hL⟩
end
end PF
namespace PF
open PySem L2
/-! ### for k in reversed(range(n)) -/
def rrng1 (d : PyData) : Rs (List PyData) := match d with
  | .int j => if small62 j then .ok (rangeD 0 j).reverse else .stuck
  | _ => .stuck
theorem walkd_rrange {c : Pc} {b : Bool} {G1 H1 : Hp} {j : Int} : WalkD c b G1 H1 (Itc (0 + (((j - 0).toNat : Nat) : Int) - 1) (-1) (j - 0).toNat) (rangeD 0 j).reverse := by
  have hl : (rangeD 0 j).length = (j - 0).toNat := by unfold rangeD; rw [List.length_map, List.length_range]
  refine ⟨fun _ => True, fun _ _ _ _ _ => trivial, fun i H hi' _ => by rw [List.length_reverse, hl] at hi'; exact hi', fun H _ => by rw [List.length_reverse, hl]; exact Nat.le_refl _, fun i G H x H' d hd _ x1 x2 hyl => ?_⟩
  obtain ⟨rfl, rfl⟩ := hyl
  have hi := (List.getElem?_eq_some_iff.mp hd).1
  rw [List.length_reverse, hl] at hi
  rw [List.getElem?_reverse (by rw [hl]; exact hi), hl] at hd
  unfold rangeD at hd
  rw [List.getElem?_map, List.getElem?_range (by omega)] at hd
  cases hd
  have e : (0 : Int) + (((j - 0).toNat - 1 - i : Nat) : Int) = 0 + (((j - 0).toNat : Nat) : Int) - 1 + (i : Nat) * -1 := by omega
  rw [← e]
  exact ⟨G, Nx.refl x2, .int _⟩
section
variable {ca : Nat → Addr} {X : Cx} {E : XK} {a : Expr} {ta : TE} {Fa : Env → Rs PyData} {tg : Expr} {p p2 pos pos2 : Pos}
theorem ji_rrng1 {b : Bool} (ha : JS ca X E a ta Fa) (hm : X.mg "reversed" = none) (hm2 : X.mg "range" = none) (hg : Gl X "reversed" := by rfl) (hg2 : Gl X "range" := by rfl) (na : starEach [a] X.env = (false, eval a X.env) :: starEach [] X.env := by rfl)
    (hs : starEach [.Call (.Name "range" p2) [a] [] pos2] X.env = (false, eval (.Call (.Name "range" p2) [a] [] pos2) X.env) :: starEach [] X.env := by rfl) :
    JI ca X E b tg (.Call (.Name "reversed" p) [.Call (.Name "range" p2) [a] [] pos2] [] pos) (iRevR (tRg1 ta)) (fIt rrng1 Fa) :=
  ⟨pi_revR hg hm (prg_1 hg2 hm2 ha.pe na) hs, fun G H ρ σ rep hns R ok er => ha.sem.use rep hns er fun d ed e1 G' H' v n r q hk _ => by
    cases d with
    | int j =>
      have q : Dp X.K G' v (.int j) := q
      by_cases hj : small62 j
      · have e2 : rrng1 (.int j) = .ok (rangeD 0 j).reverse := if_pos hj
        exact ⟨j, by rw [Dp.int_v q], by omega, by decide, hj.1, hj.2, ok _ (e1.trans e2) G' H' _ n walkd_rrange⟩
      · exact absurd (if_neg hj) hk
    | none => exact absurd rfl hk
    | bool _ => exact absurd rfl hk
    | str _ => exact absurd rfl hk
    | list _ => exact absurd rfl hk
    | tuple _ => exact absurd rfl hk
    | dict _ => exact absurd rfl hk⟩
end
end PF

namespace PF
open PySem L2 PySem.Spec PyProof.Rows
/-! ### sorted(x.keys()), x a dict of our own -/
section
variable {X : Cx} {e : Expr} {te : TE} {p apos cpos pos : Pos}
def tSortKeysT (te : TE) : TE := fun σ H Q => te σ H fun x H1 => ∃ (d : Addr) (kvs : List (List Key × V)) (L : List (List Int)), x = .ref d ∧ H1 d = some (.dT kvs) ∧ kvs.map (·.1) = L.map (fun k => k.map Sum.inl) ∧ (PySem.W.Sortable (L.map tupK) ∨ L.length ≤ 1) ∧
  ∀ (r : Addr) (L0 : List (Addr × List Int)), L0.map (·.2) = L → (∀ q ∈ L0, H1 q.1 = some (.tup (q.2.map V.int))) → H1 r = none → Q (.ref r) (upd H1 r (.lst ((L0.mergeSort (PySem.W.dataLe false encQ)).map fun q => V.ref q.1)))
theorem keys_zip {H : Hp} : ∀ {es : List (List Key × V)} {bs : List Addr} {L : List (List Int)}, IsKeys H es bs → es.map (·.1) = L.map (fun k => k.map Sum.inl) → (bs.zip L).map (·.2) = L ∧ (bs.zip L).map (·.1) = bs ∧ ∀ q ∈ bs.zip L, H q.1 = some (.tup (q.2.map V.int))
  | [], _, [], .nil, _ => ⟨rfl, rfl, nofun⟩
  | [], _, _ :: _, .nil, h => by simp at h
  | e :: es, _, [], .cons _ _, h => by simp at h
  | e :: es, _, k :: L, .cons (b := b) (l₂ := bs) q t, h => by
    rw [List.map_cons, List.map_cons] at h
    obtain ⟨h1, h2⟩ := List.cons.inj h
    obtain ⟨i1, i2, i3⟩ := keys_zip t h2
    rw [List.zip_cons_cons, List.map_cons, List.map_cons, i1, i2]
    refine ⟨rfl, rfl, fun z hz => ?_⟩
    rcases List.mem_cons.mp hz with rfl | hz
    · show H b = some (.tup (k.map V.int))
      rw [q, h1, List.map_map]; rfl
    · exact i3 z hz
theorem pe_sortKeysT (hc : X.calm = true) (hu : X.A.units + 64 < cLine) (he : PE X e te) (hg : Gl X "sorted") (hm : X.mg "sorted" = none) (hbase : attributeBase e "keys" X.env (eval e X.env) = eval e X.env := by rfl) (hline : (apos.endLine == cpos.line) = true := by rfl)
    (hs : starEach [.Call (.Attribute e "keys" apos) [] [] cpos] X.env = (false, eval (.Call (.Attribute e "keys" apos) [] [] cpos) X.env) :: starEach [] X.env := by rfl) :
    PE X (.Call (.Name "sorted" p) [.Call (.Attribute e "keys" apos) [] [] cpos] [] pos) (tSortKeysT te) := by
  refine ⟨fun pins s σ H Q I hq => ?_⟩
  have hv : bootBuiltins "sorted" = some (.builtin "sorted") := by decide +kernel
  refine wpAny_Call_Name_kw (ld_blt I hg hm hv ?_)
  refine PyProof.Rows.callWith_builtin1 ?_ hs rfl
  rw [hs]
  show wpAny _ _ (spliced ((false, eval (.Call (.Attribute e "keys" apos) [] [] cpos) X.env) :: backTo pos (starEach [] X.env))) _ _ s
  refine Calls.spliced_cons ?_
  refine wpAny_Call_method (T := "dict") (id := "dict.keys") hbase rfl hline F.plainAttrs_dict F.slot_dict_keys F.type_dict_keys (thn (he.run pins s σ H _ I hq) fun u s1 ⟨x, H1, I1, rx, d, kvs, L, ex, hd, hL, hso, q⟩ => ?_)
  subst ex
  obtain rfl : u = Value.ref d := rx
  obtain ⟨z, hsm, ks, pr, o, es, ep, ho, hx, hdt, hen, hn⟩ := (show ObjOk X.prog X.w H1 s1.heap d (.dT kvs) from I1.hok d _ hd)
  have l1 : es.size = ks.length := size_of_entries hen
  have l2 : kvs.length = ks.length := Paired.length pr
  have raw : s1.heap.DictRaw d es ep := ⟨o, ho, hx, hdt⟩
  obtain ⟨t1, t2, _⟩ := isD_at I1 (.inr ⟨kvs, .inl hd⟩)
  have I2 : Inv X pins σ H1 { s1 with heap := s1.heap.push { cls := .type "dict_keys", data := .fields #[.ref d] } } := I1.kept (t' := s1.toks) fun b ob q => Heap.get?_push_of_some _ q
  refine ⟨t1, t2, ?_⟩
  show wpAny _ _ (callWith cpos (.builtin "dict.keys") [.ref d] [] []) _ X.xe s1
  refine method_meetsIn F.slot_dict_keys F.entry_dict_keys rfl (PySem.evalArgs_none ⟨rfl, t1, F.args_dict_keys_1 _, _, meets_dict_keys_raw d hsm, ⟨es, ep, raw⟩, ?_⟩)
  refine Calls.spliced_nil ?_
  refine Calls.call_function_entry kind_sorted plain_sorted entry_sorted (args_sorted1 _) ?_
  unfold Builtin.«sorted»
  refine wpAny_bind (m := checkCount "sorted" 1 1 _) (wpAny_pure ?_)
  refine wpAny_bind (PySem.W.kdu_collect (A := X.A.in1) (PySem.KdlSrc.rawKeys (r := s1.heap.objs.size) (d := d) (es := es) (ep := ep)) (I1.ok.hd hc) ⟨⟨_, Heap.get?_push_size _ rfl, rfl, rfl⟩, raw.push _⟩ (by omega) fun h' tk acc kp it => ?_)
  have ea : acc.toList = ks.map fun x => Value.ref x.2.1 := by
    have hl : acc.toList.length = ks.length := by rw [Array.length_toList, it.1]; exact l1
    apply List.ext_getElem?
    intro j
    rw [List.getElem?_map]
    cases hj : acc.toList[j]? with
    | none =>
      have h1 := List.getElem?_eq_none_iff.mp hj
      rw [List.getElem?_eq_none (by omega)]
      all_goals rfl
    | some v =>
      obtain ⟨hi, hv'⟩ := it.2 j v (by rw [← Array.getElem?_toList]; exact hj)
      have qe := entry_at hen j
      rw [Array.getElem?_eq_getElem hi] at qe
      cases hb : ks[j]? with
      | none =>
        rw [hb] at qe
        exact nomatch (show some es[j] = none from qe)
      | some b =>
        rw [hb] at qe
        have e2 : es[j] = entryOfKey (tupleKind (mixKind X.prog X.w)) b := Option.some.inj qe
        rw [hv', e2]
        all_goals rfl
  obtain ⟨z1, z2, z3⟩ := keys_zip (isKeys_of pr) hL
  generalize hL0 : ((ks.map fun x => x.2.1).zip L) = L0 at z1 z2 z3
  have el : acc.toList = L0.map fun q => Value.ref q.1 := by
    rw [ea]
    have : (L0.map (·.1)).map Value.ref = (ks.map fun x => x.2.1).map Value.ref := by rw [z2]
    rw [List.map_map, List.map_map] at this
    exact this.symm
  have hlen : L0.length ≤ sizeLine := by
    have h1 : L0.length = acc.toList.length := by rw [el, List.length_map]
    rw [h1, ea, List.length_map]
    omega
  have hz : acc.toList.length ≤ sizeLine := by rw [el, List.length_map]; exact hlen
  refine wpAny_bind (wpAny_newList ?_ hz)
  have hoL : (h'.push (seqObj "list" acc.toList.toArray 0)).get? h'.objs.size = some (seqObj "list" acc.toList.toArray 0) := Heap.get?_push_size _ rfl
  have hal : PySem.W.AllAlike (L0.map encQ) := PySem.W.AllAlike.of fun q r => by unfold encQ; rw [PySem.W.alike]; exact PySem.W.alike_ints _ _
  have hk : PySem.W.Sortable (L0.map encQ) ∨ L0.length ≤ 1 := by
    have h1 : L0.map encQ = L.map tupK := by rw [← z1, List.map_map]; rfl
    rw [h1]
    refine hso.imp id fun h => ?_
    rw [← z1, List.length_map] at h
    exact h
  have kp2 : ∀ b u, s1.heap.get? b = some u → h'.get? b = some u := fun b u q => kp b u (Heap.get?_push_of_some _ q)
  have er : PySem.W.EachIs (fun (v : Value) (q : Addr × List Int) => ∃ as, Reads (h'.push (seqObj "list" acc.toList.toArray 0)) v (encQ q) as ∧ h'.objs.size ∉ as) acc.toList L0 := by
    rw [el]
    have : ∀ M : List (Addr × List Int), (∀ q ∈ M, q ∈ L0) → PySem.W.EachIs (fun (v : Value) (q : Addr × List Int) => ∃ as, Reads (h'.push (seqObj "list" (L0.map fun q => Value.ref q.1).toArray 0)) v (encQ q) as ∧ h'.objs.size ∉ as) (M.map fun q => Value.ref q.1) M := by
      intro M
      induction M with
      | nil => intro _; exact .nil
      | cons q M ih =>
        intro hM
        exact .cons ⟨[], isT_reads (P := X.prog) (w := X.w) (isT_keep (I1.isT (tup_sqt (z3 q (hM q List.mem_cons_self)))) fun b u e => Heap.get?_push_of_some _ (kp2 b u e)), by simp⟩ (ih fun r hr => hM r (List.mem_cons_of_mem _ hr))
    exact this L0 fun q hq => hq
  have hdep : ∀ q ∈ L0, X.A.in1.units + 1 + (encQ q).depth < cLine := fun q _ => by
    unfold encQ
    rw [PyData.depth, PySem.W.depth_ints]
    show X.A.units + 1 + 1 + (0 + 1) < cLine
    omega
  refine wpAny_bind (wpAny_holding (list_sort_dataS (enc := encQ) (R := fun (v : Value) (q : Addr × List Int) => v = .ref q.1) hoL (by rw [el]; exact each_refs L0) er hal hk hlen hdep fun out ho' he' => ?_))
  obtain ⟨c, hcc⟩ := sortedHeap_at (vs := acc.toList) (out := out.toArray) hoL
  have hout := refs_each he'
  have rv : Vals ((L0.mergeSort (PySem.W.dataLe false encQ)).map fun q => V.ref q.1) out := by rw [hout]; exact vals_of_refs _
  have hzz : ((L0.mergeSort (PySem.W.dataLe false encQ)).map fun q => V.ref q.1).length ≤ sizeLine := by rw [List.length_map, List.length_mergeSort]; exact hlen
  refine wpAny_pure ⟨_, rfl, ?_⟩
  have hsz : s1.heap.objs.size ≤ h'.objs.size := by
    refine Nat.le_of_lt (Heap.lt_size (kp s1.heap.objs.size _ (Heap.get?_push_size _ rfl)))
  have keep : ∀ b u, s1.heap.get? b = some u → (sortedHeap (h'.push (seqObj "list" acc.toList.toArray 0)) h'.objs.size acc.toList out.toArray).get? b = some u := fun b u e => by
    have q := kp2 b u e
    have hlt := Heap.lt_size q
    rw [sortedHeap_old (Nat.ne_of_lt hlt) (by rw [size_push']; exact Nat.lt_succ_of_lt hlt)]
    exact Heap.get?_push_of_some _ q
  refine ⟨.ref _, _, I1.laid (t' := tk) (o := .lst ((L0.mergeSort (PySem.W.dataLe false encQ)).map fun q => V.ref q.1)) keep hsz ?_, rfl, q _ L0 z1 z3 (I1.hok.fresh hsz)⟩
  exact ⟨hzz, out, c, rv, hcc⟩
end
def fSortKeys (i : Nat) : Env → Rs Sl := fun ρ => ownT ρ[i]? >>= fun kvs => if ((kvs.all fun kv => !kv.1.isEmpty) = true ∨ kvs.length ≤ 1) then .ok (.ol (((kvs.map (·.1)).mergeSort leT).map tupK)) else .stuck
section
variable {ca : Nat → Addr} {X : Cx} {E : XK} {x : Str} {p p2 apos cpos pos : Pos}
theorem jv_sortKeys (i : Nat) (hx : PE X (.Name x p) (tVar i)) (hc : X.calm = true) (hu : X.A.units + 64 < cLine) (hm : X.mg "sorted" = none) (hg : Gl X "sorted" := by rfl) (hbase : attributeBase (.Name x p) "keys" X.env (eval (.Name x p) X.env) = eval (.Name x p) X.env := by rfl) (hline : (apos.endLine == cpos.line) = true := by rfl)
    (hs : starEach [.Call (.Attribute (.Name x p) "keys" apos) [] [] cpos] X.env = (false, eval (.Call (.Attribute (.Name x p) "keys" apos) [] [] cpos) X.env) :: starEach [] X.env := by rfl) :
    JV ca X E (.Call (.Name "sorted" p2) [.Call (.Attribute (.Name x p) "keys" apos) [] [] cpos] [] pos) (tSortKeysT (tVar i)) (fSortKeys i) :=
  ⟨pe_sortKeysT hc hu hx hg hm (hbase := hbase) (hline := hline) (hs := hs), fun G H ρ σ rep hns Q ok er => by
    obtain ⟨ds, hs⟩ := ownT_ok hns
    have e0 : fSortKeys i ρ = if ((ds.all fun kv => !kv.1.isEmpty) = true ∨ ds.length ≤ 1) then .ok (.ol (((ds.map (·.1)).mergeSort leT).map tupK)) else .stuck := by unfold fSortKeys; rw [hs]; rfl
    obtain ⟨o, e2, pp, es, rfl, gp, hp, qq⟩ := rep.sl i _ hs
    by_cases hcd : (ds.all fun kv => !kv.1.isEmpty) = true ∨ ds.length ≤ 1
    · rw [if_pos hcd] at e0
      refine ⟨.ref pp, e2, pp, es, ds.map (·.1), rfl, hp, by rw [qq.1, List.map_map]; rfl, ?_, fun r L0 h1 h2 hr => ?_⟩
      · rcases hcd with z | z
        · refine .inl (PySem.W.Sortable.tuples' (enc := tupK) fun k hk => ?_)
          obtain ⟨kv, hkv, rfl⟩ := List.mem_map.mp hk
          have := List.all_eq_true.mp z kv hkv
          unfold tupK
          cases h : kv.1 with
          | nil => rw [h] at this; simp at this
          | cons a k => exact ⟨_, _, rfl⟩
        · exact .inr (by rw [List.length_map]; exact z)
      · obtain ⟨n1, n2⟩ := showT_nx (bs := L0.map (·.1)) rep.gh (fun b hb => by
          obtain ⟨q, hq, rfl⟩ := List.mem_map.mp hb
          exact ⟨_, h2 q hq⟩)
        have gr : showT G H (L0.map (·.1)) r = none := n1.gh.back hr
        have hsrt : (L0.mergeSort (PySem.W.dataLe false encQ)).map (·.2) = (ds.map (·.1)).mergeSort leT := by
          have e1 : PySem.W.dataLe false encQ = fun p q : Addr × List Int => leT p.2 q.2 := dataLe_tups (fun q : Addr × List Int => q.2)
          rw [e1, List.map_mergeSort (s := leT) (fun _ _ _ _ => rfl), h1]
        refine ok _ e0 (showT G H (L0.map (·.1))) _ _ (n1.trans (Nx.hid n1.gh hr)) ⟨r, _, rfl, hr, gr, upd_same, ?_⟩
        rw [← hsrt]
        refine dp_tups _ fun q hq => ?_
        have hq' := (List.mergeSort_perm L0 _).mem_iff.mp hq
        rw [n2 q.1 (List.mem_map.mpr ⟨q, hq', rfl⟩)]
        exact h2 q hq'
    · rw [if_neg hcd] at e0
      exact absurd e0 hns⟩
end
end PF

namespace PF
open PySem L2
/-! ### what a text leaves as it is: all but our own -/
open Classical in
noncomputable def notOwn (H : Hp) (ρ : Env) (σ : L2.St) : Hp := fun a => if ∃ (i : Nat) (s : Sl), ρ[i]? = some s ∧ s.own = true ∧ σ[i]? = some (some (.ref a)) then none else H a
def HldA (ρ : Env) (σ : L2.St) (a : Addr) : Prop := ∃ (i : Nat) (s : Sl), ρ[i]? = some s ∧ s.own = true ∧ σ[i]? = some (some (.ref a))
theorem notOwn_of {H : Hp} {ρ : Env} {σ : L2.St} {a : Addr} (h : ¬ HldA ρ σ a) : notOwn H ρ σ a = H a := if_neg h
theorem notOwn_held {H : Hp} {ρ : Env} {σ : L2.St} {a : Addr} (h : HldA ρ σ a) : notOwn H ρ σ a = none := if_pos h
theorem notOwn_ex {H : Hp} {ρ : Env} {σ : L2.St} : Ex (notOwn H ρ σ) H := fun a o h => by
  by_cases hh : HldA ρ σ a
  · rw [notOwn_held hh] at h; cases h
  · rw [notOwn_of hh] at h; exact h
section
variable {c : Pc} {G0 H0 G H G' H' : Hp} {ρ ρ' : Env} {σ σ' : L2.St}
theorem ent_here (rep : Rep c G H ρ σ) : Ent G (notOwn H ρ σ) G H ρ σ := ⟨⟨Ex.refl _, notOwn_ex, rep.gh, fun a _ g => .inl g⟩, fun i s p h1 h2 h3 => notOwn_held ⟨i, s, h1, h2, h3⟩⟩
theorem ent_below (en : Ent G0 H0 G H ρ σ) : Ex H0 (notOwn H ρ σ) := fun a o h => by
  have hn : ¬ HldA ρ σ a := fun ⟨i, s, h1, h2, h3⟩ => by rw [en.own i s a h1 h2 h3] at h; cases h
  rw [notOwn_of hn]
  exact en.nx.h a o h
theorem nx_join (en : Ent G0 H0 G H ρ σ) (n : Nx G (notOwn H ρ σ) G' H') : Nx G0 H0 G' H' := ⟨en.nx.g.trans n.g, (ent_below en).trans n.h, n.gh, fun a ha ga => by
  rcases en.nx.fr a ha ga with h | ⟨xs, h⟩
  · exact n.fr a (fun z => ha ((ent_below en).back z)) h
  · exact .inr ⟨xs, n.g _ _ h⟩⟩
theorem ent_join (en : Ent G0 H0 G H ρ σ) (n : Ent G (notOwn H ρ σ) G' H' ρ' σ') : Ent G0 H0 G' H' ρ' σ' := ⟨nx_join en n.nx, fun i s p h1 h2 h3 => (ent_below en).back (n.own i s p h1 h2 h3)⟩
theorem rv_join (en : Ent G0 H0 G H ρ σ) {v : V} {s : Sl} (h : RV c G (notOwn H ρ σ) G' H' v s) : RV c G0 H0 G' H' v s := by
  cases s with
  | no => exact h
  | sh d => exact h
  | ol ds => obtain ⟨p, xs, e, h1, h2⟩ := h; exact ⟨p, xs, e, (ent_below en).back h1, h2⟩
  | od kvs => obtain ⟨p, xs, e, h1, h2⟩ := h; exact ⟨p, xs, e, (ent_below en).back h1, h2⟩
  | exn x => exact h
  | hal _ _ => exact h
/-- a list that no slot of ours holds stays as it is, unseen -/
theorem keep_at (n : Nx G H G' H') {r : Addr} {xs : List V} (h : H r = some (.lst xs)) (g : G r = none) : H' r = some (.lst xs) ∧ G' r = none := by
  have h1 := n.h _ _ h
  refine ⟨h1, ?_⟩
  rcases n.fr r (by rw [h]; exact fun z => nomatch z) g with q | ⟨ys, q⟩
  · exact q
  · have := n.gh _ _ q
    rw [h1] at this
    cases this
theorem keep_no (n : Nx G (notOwn H ρ σ) G' H') {r : Addr} {xs : List V} (hh : ¬ HldA ρ σ r) (h : H r = some (.lst xs)) (g : G r = none) : H' r = some (.lst xs) ∧ G' r = none :=
  keep_at n (by rw [notOwn_of hh]; exact h) g
theorem held_no (n : Ent G (notOwn H ρ σ) G' H' ρ' σ') {r : Addr} {xs : List V} (hh : ¬ HldA ρ σ r) (h : H r = some (.lst xs)) : ¬ HldA ρ' σ' r := fun ⟨i, s, h1, h2, h3⟩ => by
  have := n.own i s r h1 h2 h3
  rw [notOwn_of hh, h] at this
  cases this
/-! ### lists of our own in a list of our own -/
def OwnL (c : Pc) (G H : Hp) : List Addr → List (List PyData) → Prop
  | [], [] => True
  | r :: rs, ds :: dss => (∃ xs, H r = some (.lst xs) ∧ G r = none ∧ DpAll c.K G xs ds) ∧ r ∉ rs ∧ OwnL c G H rs dss
  | _, _ => False
theorem OwnL.keep : ∀ {rs : List Addr} {dss : List (List PyData)}, OwnL c G H rs dss → Ex G G' → (∀ r ∈ rs, ∀ xs, H r = some (.lst xs) → G r = none → H' r = some (.lst xs) ∧ G' r = none) → OwnL c G' H' rs dss
  | [], [], _, _, _ => trivial
  | r :: rs, ds :: dss, h, e, k => by
    obtain ⟨⟨xs, h1, h2, h3⟩, h4, h5⟩ := h
    obtain ⟨k1, k2⟩ := k r List.mem_cons_self xs h1 h2
    exact ⟨⟨xs, k1, k2, DpAll.ex e h3⟩, h4, OwnL.keep h5 e fun r' hr => k r' (List.mem_cons_of_mem _ hr)⟩
  | [], _ :: _, h, _, _ => h.elim
  | _ :: _, [], h, _, _ => h.elim
theorem OwnL.lst : ∀ {rs : List Addr} {dss : List (List PyData)}, OwnL c G H rs dss → ∀ r ∈ rs, (∃ xs, H r = some (.lst xs)) ∧ G r = none
  | r :: rs, ds :: dss, h, r', hr => by
    obtain ⟨⟨xs, h1, h2, h3⟩, h4, h5⟩ := h
    rcases List.mem_cons.mp hr with rfl | k
    · exact ⟨⟨xs, h1⟩, h2⟩
    · exact OwnL.lst h5 r' k
  | [], _ :: _, h, _, _ => h.elim
  | _ :: _, [], h, _, _ => h.elim
theorem OwnL.length : ∀ {rs : List Addr} {dss : List (List PyData)}, OwnL c G H rs dss → rs.length = dss.length
  | [], [], _ => rfl
  | r :: rs, ds :: dss, h => congrArg (· + 1) (OwnL.length h.2.2)
  | [], _ :: _, h => h.elim
  | _ :: _, [], h => h.elim
theorem OwnL.append : ∀ {rs ss : List Addr} {dss ess : List (List PyData)}, OwnL c G H rs dss → OwnL c G H ss ess → (∀ r ∈ rs, r ∉ ss) → OwnL c G H (rs ++ ss) (dss ++ ess)
  | [], _, [], _, _, h, _ => h
  | r :: rs, ss, ds :: dss, ess, h, h', hd => ⟨h.1, fun hm => (List.mem_append.mp hm).elim h.2.1 (hd r List.mem_cons_self), OwnL.append h.2.2 h' fun r' hr => hd r' (List.mem_cons_of_mem _ hr)⟩
  | [], _, _ :: _, _, h, _, _ => h.elim
  | _ :: _, _, [], _, h, _, _ => h.elim
end
/-- told: a list of our own of lists of our own -/
def ROO (c : Pc) : Rel V (List (List PyData)) := fun _ H G' H' v dss => ∃ (p : Addr) (rs : List Addr), v = .ref p ∧ H p = none ∧ G' p = none ∧ H' p = some (.lst (rs.map V.ref)) ∧ p ∉ rs ∧ (∀ r ∈ rs, H r = none) ∧ OwnL c G' H' rs dss
/-- told: some lists of our own -/
def ROL (c : Pc) : Rel (List V) (List (List PyData)) := fun _ H G' H' vs dss => ∃ rs : List Addr, vs = rs.map V.ref ∧ (∀ r ∈ rs, H r = none) ∧ OwnL c G' H' rs dss
def ownR : Sl → Rs (List PyData)
  | .ol ds => .ok ds
  | _ => .stuck
def fOwn (F : Env → Rs Sl) : Env → Rs (List PyData) := fun ρ => F ρ >>= ownR
def fConsO (F : Env → Rs Sl) (Fs : Env → Rs (List (List PyData))) : Env → Rs (List (List PyData)) := fun ρ => fOwn F ρ >>= fun ds => Fs ρ >>= fun dss => .ok (ds :: dss)
def fNilO : Env → Rs (List (List PyData)) := fun _ => .ok []
section
variable {c : Pc} {E : XK} {t : TE} {ta : TA} {F : Env → Rs Sl} {Fs Fs' : Env → Rs (List (List PyData))}
theorem sem_nilO : SemG c E tNil fNilO (ROL c) := fun G H ρ σ rep hns Q ok er => ok [] rfl G H [] (Nx.refl rep.gh) ⟨[], rfl, nofun, trivial⟩
theorem ownR_ok {s : Sl} {β : Type} {k : List PyData → Rs β} (h : (ownR s >>= k) ≠ .stuck) : ∃ ds, s = .ol ds := by
  cases s with
  | ol ds => exact ⟨ds, rfl⟩
  | _ => exact absurd rfl h
theorem sem_consO (h : SemG c E t F (RV c)) (h' : SemG c E ta Fs (ROL c)) : SemG c E (tCons t ta) (fConsO F Fs) (ROL c) := fun G H ρ σ rep hns Q ok er => by
  have e0 : fConsO F Fs ρ = (F ρ >>= fun s => ownR s >>= fun ds => Fs ρ >>= fun dss => .ok (ds :: dss)) := by
    unfold fConsO fOwn
    cases F ρ <;> rfl
  rw [e0] at hns er
  refine h.use rep hns er fun s es e1 G1 H1 v n1 r1 q1 hk1 er1 => ?_
  obtain ⟨ds, rfl⟩ := ownR_ok hk1
  obtain ⟨p, xs, rfl, hp, gp, hp1, qd⟩ := q1
  refine h'.use (k := fun dss => .ok (ds :: dss)) r1 hk1 er1 fun dss edss e2 G2 H2 vs n2 r2 q2 hk2 er2 => ?_
  obtain ⟨rs, rfl, hr, ho⟩ := q2
  obtain ⟨k1, k2⟩ := keep_at n2 hp1 gp
  refine ok (ds :: dss) (by rw [e0, e1]; exact e2) G2 H2 _ (n1.trans n2) ⟨p :: rs, rfl, fun r hr' => ?_, ⟨xs, k1, k2, DpAll.ex n2.g qd⟩, fun hm => ?_, ho⟩
  · rcases List.mem_cons.mp hr' with rfl | k
    · exact hp
    · exact n1.h.back (hr r k)
  · have := hr p hm
    rw [hp1] at this
    cases this
/-- [e, ..], each a list of our own -/
theorem sem_lstO (h : SemG c E ta Fs (ROL c)) (hl : ∀ ρ dss, Fs ρ = .ok dss → dss.length ≤ 1000) : SemG c E (tLst ta) Fs (ROO c) := fun G H ρ σ rep hns Q ok er => by
  refine h G H ρ σ rep hns _ (fun dss e G1 H1 vs n1 q1 => ?_) er
  obtain ⟨rs, rfl, hr, ho⟩ := q1
  have hlen := hl ρ dss e
  have hlim : (1000 : Nat) ≤ sizeLine := lim_le (by decide)
  refine ⟨by rw [List.length_map, ho.length]; omega, fun p hp => ?_⟩
  have hpr : p ∉ rs := fun hm => by
    obtain ⟨⟨xs, hx⟩, _⟩ := ho.lst p hm
    rw [hp] at hx
    cases hx
  have n2 : Nx G1 H1 G1 (upd H1 p (.lst (rs.map V.ref))) := Nx.hid n1.gh hp
  exact ok dss e G1 _ _ (n1.trans n2) ⟨p, rs, rfl, n1.h.back hp, n1.gh.back hp, upd_same, hpr, hr, ho.keep (Ex.refl _) fun r hm xs a b => keep_at n2 a b⟩
/-- a loop over lists of our own -/
def goOO (j : Nat) (B : Env → Rs Out) : List (List PyData) → Env → Rs Out
  | [], ρ => .ok (.nx ρ)
  | ds :: dss, ρ => after (B (ρ.set j (.ol ds))) (goOO j B dss)
theorem loop_oo {tb : TS} {B : Env → Rs Out} {j : Nat} {p : Addr} {ps : List Addr} (hb : SemP c E tb B) {G0 H0 : Hp} {D : Ends} {R : Rs Out} (hns : R ≠ .stuck)
    (nx : ∀ ρ', R = .ok (.nx ρ') → ∀ G' H' σ', Rep c G' H' ρ' σ' → Ent G0 H0 G' H' ρ' σ' → D.nx σ' H')
    (rt : ∀ s, R = .ok (.rt s) → ∀ G' H' v, Nx G0 H0 G' H' → RV c G0 H0 G' H' v s → D.rt v H') (er : ErrP c E G0 H0 R)
    {G H : Hp} {ρ : Env} {σ : L2.St} {dss : List (List PyData)} (rep : Rep c G H ρ σ) (en : Ent G0 H0 G H ρ σ) (hp : H p = some (.lst (ps.map V.ref))) (gp : G p = none) (np : ¬ HldA ρ σ p) (ho : OwnL c G H ps dss) (hpp : p ∉ ps) (hh : ∀ r ∈ ps, ¬ HldA ρ σ r) (h0 : ∀ r ∈ ps, H0 r = none) (hR : goOO j B dss ρ = R) :
    ∃ W : Nat → Nat → L2.St → Hp → Prop, (∃ m, W 0 m σ H) ∧ ∀ i m σ H, W i m σ H →
      ((Itl c.K p).stop i H ∧ D.nx σ H) ∨ ((Itl c.K p).go i H ∧ ∃ N : L2.St → Hp → Prop, (∀ σ' H', N σ' H' → ∃ m', m' < m ∧ W (i + 1) m' σ' H') ∧ ∀ x H', (Itl c.K p).yld i H x H' → (gName j) x σ H' fun σ2 H2 => tb { D with nx := N, ct := N, bk := D.nx } σ2 H2) := by
  refine ⟨fun k m σ1 H1 => m = ps.length - k ∧ ∃ (G1 : Hp) (ρ1 : Env) (rs : List Addr) (es : List (List PyData)), ps.drop k = rs ∧ Rep c G1 H1 ρ1 σ1 ∧ Ent G0 H0 G1 H1 ρ1 σ1 ∧ H1 p = some (.lst (ps.map V.ref)) ∧ G1 p = none ∧ ¬ HldA ρ1 σ1 p ∧ OwnL c G1 H1 rs es ∧ (∀ r ∈ rs, ¬ HldA ρ1 σ1 r) ∧ goOO j B es ρ1 = R,
    ⟨ps.length, rfl, G, ρ, ps, dss, rfl, rep, en, hp, gp, np, ho, hh, hR⟩, fun k m σ1 H1 h => ?_⟩
  obtain ⟨rfl, G1, ρ1, rs, es, hrs, rep1, en1, hp1, gp1, np1, ho1, hh1, hf⟩ := h
  have sq : SqL c.K H1 p (ps.map V.ref) := .inl (.inl hp1)
  cases rs with
  | nil =>
    cases es with
    | cons _ _ => exact ho1.elim
    | nil =>
      have hk : ps.length ≤ k := List.drop_eq_nil_iff.mp hrs
      exact .inl ⟨⟨_, sq, by rw [List.length_map]; exact hk⟩, nx ρ1 hf.symm G1 H1 σ1 rep1 en1⟩
  | cons r rs =>
    cases es with
    | nil => exact ho1.elim
    | cons ds es =>
      have hk : k < ps.length := by
        refine Classical.byContradiction fun z => ?_
        rw [List.drop_eq_nil_iff.mpr (by omega)] at hrs
        cases hrs
      have hget : ps[k]? = some r := by
        have := congrArg (fun l => l[0]?) hrs
        simpa using this
      have hdrop : ps.drop (k + 1) = rs := by
        have := congrArg List.tail hrs
        rw [List.tail_drop] at this
        exact this
      have hget2 : (ps.map V.ref)[k]? = some (.ref r) := by rw [List.getElem?_map, hget]; rfl
      have hrm : ∀ x ∈ r :: rs, x ∈ ps := fun x hx => List.mem_of_mem_drop (by rw [hrs]; exact hx)
      obtain ⟨⟨xs, x1, x2, x3⟩, hnr, ho2⟩ := ho1
      refine .inr ⟨⟨_, _, sq, hget2⟩, fun σ2 H2 => ∃ (G2 : Hp) (ρ2 : Env), Rep c G2 H2 ρ2 σ2 ∧ Ent G0 H0 G2 H2 ρ2 σ2 ∧ H2 p = some (.lst (ps.map V.ref)) ∧ G2 p = none ∧ ¬ HldA ρ2 σ2 p ∧ OwnL c G2 H2 rs es ∧ (∀ r ∈ rs, ¬ HldA ρ2 σ2 r) ∧ goOO j B es ρ2 = R,
        fun σ2 H2 ⟨G2, ρ2, a1, a2, a3, a4, a5, a6, a7, a8⟩ => ⟨ps.length - (k + 1), by omega, rfl, G2, ρ2, rs, es, hdrop, a1, a2, a3, a4, a5, a6, a7, a8⟩, fun x H2 hy => ?_⟩
      obtain ⟨rfl, hy2⟩ := hy
      have hx := hy2 _ sq
      rw [hget2] at hx
      cases hx
      have rep2 : Rep c G1 H2 (ρ1.set j (.ol ds)) (σ1.set j (some (.ref r))) := rep1.setOwn ⟨r, xs, rfl, x2, x1, x3⟩ fun i u hij hi hu he => hh1 r List.mem_cons_self ⟨i, u, hi, hu, he⟩
      have held2 : ∀ a, HldA (ρ1.set j (.ol ds)) (σ1.set j (some (.ref r))) a → a = r ∨ HldA ρ1 σ1 a := fun a ⟨i, s, h1, h2, h3⟩ => by
        by_cases hij : j = i
        · rw [← hij] at h3
          rw [List.getElem?_set] at h3
          split at h3
          · split at h3
            · cases h3; exact .inl rfl
            · cases h3
          · rename_i z; exact absurd rfl z
        · rw [List.getElem?_set, if_neg hij] at h1 h3
          exact .inr ⟨i, s, h1, h2, h3⟩
      have en2 : Ent G0 H0 G1 H2 (ρ1.set j (.ol ds)) (σ1.set j (some (.ref r))) := ⟨en1.nx, fun i s q h1 h2 h3 => by
        rcases held2 q ⟨i, s, h1, h2, h3⟩ with rfl | ⟨i', s', h1', h2', h3'⟩
        · exact h0 _ (hrm _ List.mem_cons_self)
        · exact en1.own i' s' q h1' h2' h3'⟩
      have hf2 : after (B (ρ1.set j (.ol ds))) (goOO j B es) = R := hf
      have npr : p ≠ r := fun z => hpp (z ▸ hrm r List.mem_cons_self)
      have nh : ∀ a, a ≠ r → ¬ HldA ρ1 σ1 a → ¬ HldA (ρ1.set j (.ol ds)) (σ1.set j (some (.ref r))) a := fun a h1 h2 h3 => (held2 a h3).elim h1 h2
      refine hb.use (k := goOO j B es) rep2 (ent_here rep2) (by rw [hf2]; exact hns) (fun ρ' e3 e4 G3 H3 σ3 r3 en3 => ?_) (fun s e3 G3 H3 v n3 q3 => rt s (hf2.symm.trans e3) G3 H3 v (nx_join en2 n3) (rv_join en2 q3)) fun x e G3 H3 cl dd n3 => er x (hf2.symm.trans e) G3 H3 cl dd (nx_join en2 n3)
      obtain ⟨k1, k2⟩ := keep_no en3.nx (nh p npr np1) hp1 gp1
      have hlst := ho2.lst
      have nrs : ∀ a ∈ rs, ¬ HldA (ρ1.set j (.ol ds)) (σ1.set j (some (.ref r))) a := fun a ha => nh a (fun z => hnr (z ▸ ha)) (hh1 a (List.mem_cons_of_mem _ ha))
      exact ⟨G3, ρ', r3, ent_join en2 en3, k1, k2, held_no en3 (nh p npr np1) hp1, ho2.keep en3.nx.g fun a ha xs' b1 b2 => keep_no en3.nx (nrs a ha) b1 b2, fun a ha => by
        obtain ⟨⟨ys, hy⟩, _⟩ := hlst a ha
        exact held_no en3 (nrs a ha) hy, e4.symm.trans hf2⟩
end
/-! ### for y in e, e a list of our own of lists of our own -/
def fForOO (j : Nat) (Fc : Env → Rs (List (List PyData))) (B : Env → Rs Out) : Env → Rs Out := fun ρ => Fc ρ >>= fun dss => goOO j B dss ρ
theorem jp_forOO {ca : Nat → Addr} {X : Cx} {E : XK} {pos : Pos} (j : Nat) {tg iter : Expr} {body : List Stmt} {te : TE} {tb : TS} {Fc : Env → Rs (List (List PyData))} {B : Env → Rs Out} (his : PE X iter te ∧ SemG ⟨X.K, ca⟩ E te Fc (ROO ⟨X.K, ca⟩)) (hg : PG X tg (gName j)) (hb : JPs ca X E body tb B)
    (hp : PassesOwn (model X.prog X.w) X.A X.env X.xe) (hc : X.calm = true) (hfs : ∀ x, foldedSetIterable iter X.env x = pure x := by intro _; rfl) : JP ca X E (.For tg iter body [] pos) (tFor (iList X.K te) (gName j) tb) (fForOO j Fc B) := by
  obtain ⟨hi, hs⟩ := his
  refine ⟨ps_for hp hc (pi_list hi) hg hb.ps hfs, fun G0 H0 G H ρ σ rep en hns D nx rt er => ?_⟩
  refine hs.use (k := fun dss => goOO j B dss ρ) rep hns (fun x e G' H' cl dd n => er x e G' H' cl dd (en.nx.trans n)) fun dss ed e1 G1 H1 v n1 r1 q1 hk er1 => ?_
  obtain ⟨p, rs, rfl, hp0, gp, hp1, hpr, hr, ho⟩ := q1
  have nh : ∀ a, H a = none → ¬ HldA ρ σ a := fun a ha ⟨i, s, h1, h2, h3⟩ => by
    obtain ⟨o, e2, q⟩ := rep.sl i s h1
    rw [h3] at e2
    cases e2
    cases s with
    | no => cases h2
    | sh d => cases h2
    | exn x => cases h2
    | hal _ _ => cases h2
    | ol ds => obtain ⟨b, xs, z, _, hb, _⟩ := q; cases z; rw [ha] at hb; cases hb
    | od ds => obtain ⟨b, xs, z, _, hb, _⟩ := q; cases z; rw [ha] at hb; cases hb
  exact ⟨p, rfl, ⟨_, .inl (.inl hp1)⟩, loop_oo hb.sem hk (fun ρ' e => nx ρ' (e1.trans e)) (fun s e => rt s (e1.trans e)) (fun x e => er x (e1.trans e)) r1 (en.go n1) hp1 gp (nh p hp0) ho hpr (fun r hm => nh r (hr r hm)) (fun r hm => en.nx.h.back (hr r hm)) rfl⟩
/-! ### a def that tells lists of our own -/
def spOO (c : Pc) (f : List PyData → Rs (List (List PyData))) (np : Nat) : Sp := fun vs H Q E => ∃ G ds, Ex G H ∧ DpAll c.K G vs ds ∧ ds.length = np ∧ f ds ≠ .stuck ∧
  (∀ dss, f ds = .ok dss → ∀ G' H' v, Nx G H G' H' → ROO c G H G' H' v dss → Q v H') ∧ ErrP c E G H (f ds)
structure CalleeO (P : Program) (w : World) (K : PySem.W.Frag) (mg : Str → Option Value) (base : Heap) (ca : Nat → Addr) (x : Str) (k : Nat) (f : List PyData → Rs (List (List PyData))) (np : Nat) : Prop where
  ex : ∃ (a : Addr) (fd : FuncData) (ps : List Str), FnOk P w K mg base (L2.CX P w) k a fd ps (spOO ⟨K, ca⟩ f np) ∧ mg x = some (.ref a) ∧ PySem.W.keepIn K (.ref a) = true ∧ Binds K fd ps []
  len : ∀ ds, f ds ≠ .stuck → ds.length = np
def fCallO (f : List PyData → Rs (List (List PyData))) (F : Env → Rs (List PyData)) : Env → Rs (List (List PyData)) := fun ρ => F ρ >>= f
theorem ROO.mono {c : Pc} {G H G1 H1 G' H' : Hp} {v : V} {dss : List (List PyData)} (n : Nx G H G1 H1) (h : ROO c G1 H1 G' H' v dss) : ROO c G H G' H' v dss := by
  obtain ⟨p, rs, e, h1, h2, h3, h4, h5, h6⟩ := h
  exact ⟨p, rs, e, n.h.back h1, h2, h3, h4, fun r hr => n.h.back (h5 r hr), h6⟩
theorem sem_callO {c : Pc} {E : XK} {f : List PyData → Rs (List (List PyData))} {np : Nat} {t : TA} {F : Env → Rs (List PyData)} (h : SemG c E t F (RA c)) (hl : ∀ ds, f ds ≠ .stuck → ds.length = np) : SemG c E (tCall (spOO c f np) [] E t) (fCallO f F) (ROO c) := by
  intro G H ρ σ rep hns Q ok er
  refine h.use rep hns er fun ds ed e1 G1 H1 vs n1 r1 q1 h1 er1 => ?_
  show spOO c f np (vs ++ []) H1 Q E
  rw [List.append_nil]
  exact ⟨G1, ds, n1.gh, q1, hl ds h1, h1, fun s es G' H' v n q => ok s (e1.trans es) G' H' v (n1.trans n) (ROO.mono n1 q), er1⟩
theorem po_call {ca : Nat → Addr} {X : Cx} {E : XK} {x : Str} {k np : Nat} {f : List PyData → Rs (List (List PyData))} {e : Expr} {es : List Expr} {t : TA} {Fa : Env → Rs (List PyData)} {p pos : Pos} (C : CalleeO X.prog X.w X.K X.mg X.base ca x k f np) (hr : Room k X.A) (hx : Passes (L2.CX X.prog X.w) X E) (ha : JA ca X E (e :: es) t Fa)
    (hg : Gl X x := by rfl) (hdb : (x == ("__debug__" : Str)) = false := by decide) (he : starEach (e :: es) X.env = (false, eval e X.env) :: starEach es X.env := by rfl) (hpl : (backTo pos (starEach es X.env)).any (·.1) = false := by rfl) :
    PE X (.Call (.Name x p) (e :: es) [] pos) (tCall (spOO ⟨X.K, ca⟩ f np) [] E t) ∧ SemG ⟨X.K, ca⟩ E (tCall (spOO ⟨X.K, ca⟩ f np) [] E t) (fCallO f Fa) (ROO ⟨X.K, ca⟩) := by
  obtain ⟨fa, fd, ps, F, hm, hk, hb⟩ := C.ex
  exact ⟨pe_call F hr hg hm hk hb .nil hx ha.pa hdb he hpl, sem_callO ha.sem C.len⟩
/-- the body: y = [..]; return y + [..] -/
def fPairO (F1 F2 : Env → Rs (List (List PyData))) : Env → Rs (List (List PyData)) := fun ρ => F1 ρ >>= fun a => F2 ρ >>= fun b => .ok (a ++ b)
theorem sem_pairO {c : Pc} {E : XK} {i : Nat} {t1 t2 : TE} {F1 F2 : Env → Rs (List (List PyData))} (h1 : SemG c E t1 F1 (ROO c)) (h2 : SemG c E t2 F2 (ROO c)) (hi : ∀ ρ, F2 (ρ.set i .no) = F2 ρ) (hl : ∀ ρ a, F1 ρ = .ok a → a.length ≤ 1000) (hl2 : ∀ ρ a, F2 ρ = .ok a → a.length ≤ 1000)
    {G H : Hp} {ρ : Env} {σ : L2.St} (hil : i < σ.length) (rep : Rep c G H ρ σ) (hns : fPairO F1 F2 ρ ≠ .stuck) {D : Ends} (ok : ∀ dss, fPairO F1 F2 ρ = .ok dss → ∀ G' H' v, Nx G H G' H' → ROO c G H G' H' v dss → D.rt v H') (er : ErrP c E G H (fPairO F1 F2 ρ)) :
    tSeq (tAsg t1 (gName i)) (tRet (tOp (rCatL c.K) (tVar i) t2)) D σ H := by
  refine h1.use (k := fun a => F2 ρ >>= fun b => .ok (a ++ b)) rep hns er fun a ea e1 G1 H1 v n1 r1 q1 hk1 er1 => ?_
  obtain ⟨p, rs, rfl, p1, p2, p3, p4, p5, p6⟩ := q1
  have r2 : Rep c G1 H1 (ρ.set i .no) (σ.set i (some (.ref p))) := r1.set rfl trivial
  show ∃ v, (σ.set i (some (V.ref p)))[i]? = some (some v) ∧ _
  refine ⟨.ref p, by rw [List.getElem?_set, if_pos rfl, if_pos hil], ?_⟩
  have e2 : F2 (ρ.set i .no) = F2 ρ := hi ρ
  refine h2 G1 H1 _ _ r2 (fun z => hk1 (by rw [← e2, z]; rfl)) _ (fun b eb G2 H2 w n2 q2 => ?_) (fun x ex => er1 x (by rw [← e2, ex]; rfl))
  rw [e2] at eb
  obtain ⟨p', rs', rfl, s1, s2, s3, s4, s5, s6⟩ := q2
  obtain ⟨k1, k2⟩ := keep_at n2 p3 p2
  have hla := hl ρ a ea
  have hlb := hl2 ρ b eb
  have hlim : (2000 : Nat) ≤ sizeLine := lim_le (by decide)
  refine ⟨p, p', rs.map V.ref, rs'.map V.ref, rfl, rfl, .inl (.inl k1), .inl (.inl s3), by rw [List.length_map, List.length_map, p6.length, s6.length]; omega, fun q hq => ?_⟩
  rw [← List.map_append]
  have ho1 : OwnL c G2 H2 rs a := p6.keep n2.g fun r hr xs a b => keep_at n2 a b
  have hdis : ∀ r ∈ rs, r ∉ rs' := fun r hr hr' => by
    obtain ⟨⟨xs, hx⟩, _⟩ := p6.lst r hr
    have := s5 r hr'
    rw [hx] at this
    cases this
  have ho : OwnL c G2 H2 (rs ++ rs') (a ++ b) := ho1.append s6 hdis
  have hqn : q ∉ rs ++ rs' := fun hm => by
    obtain ⟨⟨xs, hx⟩, _⟩ := ho.lst q hm
    rw [hq] at hx
    cases hx
  have n3 : Nx G2 H2 G2 (upd H2 q (.lst ((rs ++ rs').map V.ref))) := Nx.hid n2.gh hq
  refine ok (a ++ b) (by unfold fPairO; rw [e1, eb]; rfl) G2 _ _ ((n1.trans n2).trans n3) ⟨q, rs ++ rs', rfl, n1.h.back (n2.h.back hq), n2.gh.back hq, upd_same, hqn, fun r hr => ?_, ho.keep (Ex.refl _) fun r hm xs a b => keep_at n3 a b⟩
  rcases List.mem_append.mp hr with k | k
  · exact p5 r k
  · exact n1.h.back (s5 r k)
structure JAO (ca : Nat → Addr) (X : Cx) (E : XK) (es : List Expr) (t : TA) (F : Env → Rs (List (List PyData))) (n : Nat) : Prop where
  pa : PA X es t
  sem : SemG ⟨X.K, ca⟩ E t F (ROL ⟨X.K, ca⟩)
  len : ∀ ρ a, F ρ = .ok a → a.length ≤ n
theorem jao_nil {ca : Nat → Addr} {X : Cx} {E : XK} : JAO ca X E [] tNil fNilO 0 := ⟨pa_nil, sem_nilO, fun ρ a e => by cases e; exact Nat.le_refl _⟩
theorem jao_cons {ca : Nat → Addr} {X : Cx} {E : XK} {e : Expr} {es : List Expr} {te : TE} {t : TA} {F : Env → Rs Sl} {Fs : Env → Rs (List (List PyData))} {n : Nat} (h : JV ca X E e te F) (h' : JAO ca X E es t Fs n) (hs : starEach (e :: es) X.env = (false, eval e X.env) :: starEach es X.env := by rfl) : JAO ca X E (e :: es) (tCons te t) (fConsO F Fs) (n + 1) :=
  ⟨pa_cons h.pe h'.pa hs, sem_consO h.sem h'.sem, fun ρ a e => by
    unfold fConsO at e
    cases h1 : fOwn F ρ with
    | stuck => rw [h1] at e; cases e
    | err x => rw [h1] at e; cases e
    | ok ds =>
      rw [h1, ok_bind] at e
      cases h2 : Fs ρ with
      | stuck => rw [h2] at e; cases e
      | err x => rw [h2] at e; cases e
      | ok dss =>
        rw [h2, ok_bind] at e
        cases e
        exact Nat.succ_le_succ (h'.len ρ dss h2)⟩
/-- a body that tells lists of our own -/
structure JOO (ca : Nat → Addr) (X : Cx) (E : XK) (sts : List Stmt) (t : TS) (F : Env → Rs (List (List PyData))) (n : Nat) : Prop where
  ps : PSs X sts t
  sem : ∀ (G H : Hp) (ρ : Env) (σ : L2.St), σ.length = n → Rep ⟨X.K, ca⟩ G H ρ σ → F ρ ≠ .stuck → ∀ D : Ends, (∀ dss, F ρ = .ok dss → ∀ G' H' v, Nx G H G' H' → ROO ⟨X.K, ca⟩ G H G' H' v dss → D.rt v H') → ErrP ⟨X.K, ca⟩ E G H (F ρ) → t D σ H
theorem jo_pair {ca : Nat → Addr} {X : Cx} {E : XK} {i n1 n2 n : Nat} {x : Str} {p1 p2 p3 p4 p5 p6 p7 : Pos} {es1 es2 : List Expr} {t1 t2 : TA} {F1 F2 : Env → Rs (List (List PyData))} (h1 : JAO ca X E es1 t1 F1 n1) (h2 : JAO ca X E es2 t2 F2 n2) (hx0 : PE X (.Name x p3) (tVar i)) (hN : X.N.Nodup) (hi : X.N[i]? = some x) (hx : Loc X.env.scope x)
    (hf2 : ∀ ρ, F2 (ρ.set i .no) = F2 ρ) (hin : i < n) (hn1 : n1 ≤ 1000) (hn2 : n2 ≤ 1000) (hs : swapsWith (.List es1 p2) (some (.Name x p1)) p4.line X.env = pure false := by rfl)
    (hf : X.fn x = true ∨ X.env.scope.names.lookup x = some .local := by first | exact .inl rfl | exact .inr rfl) :
    JOO ca X E [.Assign [.Name x p1] (.List es1 p2) p4, .Return (some (.BinOp (.Name x p3) .Add (.List es2 p5) p6)) p7] (tSeq (tAsg (tLst t1) (gName i)) (tRet (tOp (rCatL X.K) (tVar i) (tLst t2)))) (fPairO F1 F2) n :=
  ⟨pss_cons (ps_set hN hi hx (pe_lst h1.pa) hs hf) (pss_one (ps_ret (pe_op op_catL hx0 (pe_lst h2.pa)))), fun G H ρ σ hl rep hns D ok er =>
    sem_pairO (sem_lstO h1.sem fun ρ a e => Nat.le_trans (h1.len ρ a e) hn1) (sem_lstO h2.sem fun ρ a e => Nat.le_trans (h2.len ρ a e) hn2) hf2 (fun ρ a e => Nat.le_trans (h1.len ρ a e) hn1) (fun ρ a e => Nat.le_trans (h2.len ρ a e) hn2) (by rw [hl]; exact hin) rep hns ok er⟩
def fnO (np n : Nat) (F : Env → Rs (List (List PyData))) (ds : List PyData) : Rs (List (List PyData)) := if ds.length = np then F (ds.map Sl.sh ++ List.replicate (n - np) Sl.no) else .stuck
theorem fnO_len {np n : Nat} {F : Env → Rs (List (List PyData))} (ds : List PyData) (h : fnO np n F ds ≠ .stuck) : ds.length = np := by
  unfold fnO at h
  split at h
  · assumption
  · exact absurd rfl h
theorem fn_okO {P : Program} {w : World} {K : PySem.W.Frag} {mg : Str → Option Value} {base : Heap} {ca : Nat → Addr} {x qual : Str} {st : Stmt} {f : Addr} {fd : FuncData} {N ps : List Str} {k : Nat} (F : Fun K x qual st f fd) (S : FnScope N ps (defScope st)) (FF : Env → Rs (List (List PyData)))
    (hb : ∀ (cdv : Value) (A : Around) (outer : List PySem.Env) (s : Shared) (H : Hp) (E : XK), Room k (A.deeper (PyProof.Rows.envOfC qual (defScope st) s.heap.objs.size f cdv)) →
      CxOk (cxOf (L2.CX P w) P w K mg base N qual (defScope st) f cdv A outer s H E) E →
      ∃ t, JOO ca (cxOf (L2.CX P w) P w K mg base N qual (defScope st) f cdv A outer s H E) E (defBody st) t FF N.length) (hnp : ps.length ≤ N.length := by decide) :
    FnOk P w K mg base (L2.CX P w) (k + 1) f fd ps (spOO ⟨K, ca⟩ (fnO ps.length N.length FF) ps.length) := by
  refine F.okX S (fun vs H Q E h => ?_) (fun cdv A outer s H vs Q E hr h => ?_)
  · obtain ⟨G, ds, _, a, e, _⟩ := h
    rw [DpAll.length a, e]
  · obtain ⟨G, ds, e, a, el, hns, hok, her⟩ := h
    have o : CxOk (cxOf (L2.CX P w) P w K mg base N qual (defScope st) f cdv A outer s H E) E :=
      ⟨rfl, by have := hr.un; show (A.deeper _).units + 200 < cLine; omega, S.nd, passes_of rfl, passes_call (takes_of rfl rfl rfl rfl) fun _ _ _ _ z => z, takes_of rfl rfl rfl rfl⟩
    obtain ⟨t, hps, hsem⟩ := hb cdv A outer s H E hr o
    refine ⟨t, hps, ?_⟩
    have rep : Rep ⟨K, ca⟩ G H (ds.map Sl.sh ++ List.replicate (N.length - ds.length) Sl.no) (L2.start N vs) := start_rep e a (by rw [el]; exact hnp)
    have hlen : (L2.start N vs).length = N.length := by
      rw [← rep.len, List.length_append, List.length_map, List.length_replicate, el]
      omega
    have key : ∀ r, FF (ds.map Sl.sh ++ List.replicate (N.length - ds.length) Sl.no) = r → fnO ps.length N.length FF ds = r := fun r z => by unfold fnO; rw [if_pos el, ← el, z]
    exact hsem G H _ _ hlen rep (fun z => hns (key _ z)) _ (fun dss z G' H' v n q => hok dss (key _ z) G' H' v n q) fun y z => her y (key _ z)
theorem calleeO_of {P : Program} {w : World} {K : PySem.W.Frag} {mg : Str → Option Value} {base : Heap} {ca : Nat → Addr} {x qual y : Str} {st : Stmt} {f : Addr} {fd : FuncData} {ps : List Str} {k np n : Nat} {F : Env → Rs (List (List PyData))} (Fu : Fun K y qual st f fd) (h : FnOk P w K mg base (L2.CX P w) k f fd ps (spOO ⟨K, ca⟩ (fnO np n F) np))
    (hm : mg x = some (.ref f)) (hb : Binds K fd ps []) : CalleeO P w K mg base ca x k (fnO np n F) np := ⟨⟨f, fd, ps, h, hm, Fu.kp, hb⟩, fun ds => fnO_len ds⟩
theorem set_fCall {i : Nat} {f : List PyData → Rs Sl} {F : Env → Rs (List PyData)} (h : ∀ ρ, F (ρ.set i .no) = F ρ) (ρ : Env) : fCall f F (ρ.set i .no) = fCall f F ρ := by unfold fCall; rw [h]
theorem set_fConsO {i : Nat} {F : Env → Rs Sl} {Fs : Env → Rs (List (List PyData))} (h : ∀ ρ, F (ρ.set i .no) = F ρ) (h' : ∀ ρ, Fs (ρ.set i .no) = Fs ρ) (ρ : Env) : fConsO F Fs (ρ.set i .no) = fConsO F Fs ρ := by unfold fConsO fOwn; rw [h, h']
theorem set_fCons {i : Nat} {F : Env → Rs PyData} {Fs : Env → Rs (List PyData)} (h : ∀ ρ, F (ρ.set i .no) = F ρ) (h' : ∀ ρ, Fs (ρ.set i .no) = Fs ρ) (ρ : Env) : fCons F Fs (ρ.set i .no) = fCons F Fs ρ := by unfold fCons; rw [h, h']
theorem set_fVarS {i j : Nat} (hij : i ≠ j) (ρ : Env) : fVarS j (ρ.set i .no) = fVarS j ρ := by unfold fVarS; rw [List.getElem?_set, if_neg hij]
end PF

namespace PF
open PySem L2
/-! ### a comprehension of lists of our own -/
def noErrO {α : Type} : Rs α → Rs α
  | .ok r => .ok r
  | _ => .stuck
def lcFO (T : Tgt) (C : Env → Rs Bool) (F : Env → Rs Sl) (ρ0 : Env) : List PyData → List (List PyData) → Rs (List (List PyData))
  | [], acc => .ok acc
  | d :: ds, acc => match T d ρ0 with
    | some ρ => C ρ >>= fun b => if b = true then fOwn F ρ >>= fun y => (if acc.length < lim then lcFO T C F ρ0 ds (acc ++ [y]) else .stuck) else lcFO T C F ρ0 ds acc
    | none => .stuck
def fLcO1 (S : Env → Rs (List PyData)) (T : Tgt) (C : Env → Rs Bool) (F : Env → Rs Sl) (vs : List Nat) : Env → Rs (List (List PyData)) := fun ρ => S ρ >>= fun ds => lcFO T C F (wipeE ρ vs) ds []
def fLcO (S : Env → Rs (List PyData)) (T : Tgt) (C : Env → Rs Bool) (F : Env → Rs Sl) (vs : List Nat) : Env → Rs (List (List PyData)) := fun ρ => noErrO (fLcO1 S T C F vs ρ)
theorem lc_semO {c : Pc} {E : XK} {wi : TI} {g : TG} {tt : TT} {te : TE} {S : Env → Rs (List PyData)} {T : Tgt} {L vs : List Nat} {C : Env → Rs Bool} {F : Env → Rs Sl} (hg : SemTG c g T L) (ht : SemG c E0 tt C RT) (he : SemG c E0 te F (RV c))
    (hL : ∀ i ∈ L, i ∈ vs) : ∀ (G H : Hp) (ρ : Env) (σ : L2.St), (∀ R : It → Hp → Prop, (∀ ds, S ρ = .ok ds → ∀ G' H' J, Nx G H G' H' → WalkD c true G' H' J ds → R J H') → ErrP c E G H (S ρ) → wi σ H R) → Rep c G H ρ σ → (∃ r, fLcO1 S T C F vs ρ = .ok r) → ∀ Q : VK, (∀ a, fLcO1 S T C F vs ρ = .ok a → ∀ G' H' v, Nx G H G' H' → ROO c G H G' H' v a → Q v H') → tLc wi g tt te vs σ H Q := by
  intro G H ρ σ hi rep hr Q ok
  obtain ⟨r, hr⟩ := hr
  cases hS : S ρ with
  | stuck => unfold fLcO1 at hr; rw [hS] at hr; cases hr
  | err x => unfold fLcO1 at hr; rw [hS] at hr; cases hr
  | ok ds0 =>
  refine hi _ (fun ds ed G' H' J n wd => ?_) fun x e => by rw [hS] at e; cases e
  rw [hS] at ed
  cases ed
  cases hl : lcFO T C F (wipeE ρ vs) ds0 [] with
  | stuck => unfold fLcO1 at hr; rw [hS, ok_bind, hl] at hr; cases hr
  | err x => unfold fLcO1 at hr; rw [hS, ok_bind, hl] at hr; cases hr
  | ok res =>
  have e0 : fLcO1 S T C F vs ρ = .ok res := by unfold fLcO1; rw [hS, ok_bind, hl]
  obtain ⟨Gd, hgd, goes, stops, ylds⟩ := wd.ex
  intro Dl hD
  have gD : G' Dl = none := n.gh.back hD
  refine ⟨fun i m H1 => m = ds0.length - i ∧ i ≤ ds0.length ∧ ∃ G1 acc rs, Nx G' (upd H' Dl (.lst [])) G1 (upd H1 Dl (.lst [])) ∧ Ex G1 H1 ∧ H1 Dl = some (.lst (rs.map V.ref)) ∧ (∀ r ∈ rs, H' r = none) ∧ Dl ∉ rs ∧ OwnL c G1 H1 rs acc ∧ lcFO T C F (wipeE ρ vs) (ds0.drop i) acc = .ok res,
    ⟨ds0.length, rfl, Nat.zero_le _, G', [], [], ?_, ?_, upd_same, nofun, nofun, trivial, hl⟩, fun i m H1 h => ?_⟩
  · rw [upd_upd]
    exact Nx.refl (n.gh.trans (Ex.new hD))
  · exact n.gh.trans (Ex.new hD)
  obtain ⟨rfl, hil, G1, acc, rs, n1, x1, hx, hrs, hDr, ax, hf⟩ := h
  have g1D : G1 Dl = none := by
    rcases n1.fr Dl (by rw [upd_same]; exact fun z => nomatch z) gD with q | ⟨ys, q⟩
    · exact q
    · have := n1.gh Dl _ q
      rw [upd_same] at this
      cases this
  have old : ∀ a o, H' a = some o → H1 a = some o := fun a o h => by
    have hne : a ≠ Dl := ne_of_none h hD
    have := n1.h a o (by rw [upd_ne hne]; exact h)
    rwa [upd_ne hne] at this
  have nx1 : Nx G H G1 H1 := by
    refine ⟨n.g.trans n1.g, n.h.trans old, x1, fun a h g => ?_⟩
    rcases n.fr a h g with q | ⟨ys, q⟩
    · refine n1.fr a ?_ q
      have hne : a ≠ Dl := fun z => by
        subst z
        exact h (n.h.back hD)
      rw [upd_ne hne]
      cases hh : H a with
      | none => exact absurd hh h
      | some o => rw [n.h a o hh]; exact fun z => nomatch z
    · exact .inr ⟨ys, n1.g a _ q⟩
  have gd := hgd G1 H1 n1.g x1 fun _ => old
  by_cases hlt : i < ds0.length
  · refine .inr ⟨goes i H1 hlt gd, ?_⟩
    have hd : ds0[i]? = some ds0[i] := List.getElem?_eq_getElem hlt
    rw [List.drop_eq_getElem_cons hlt] at hf
    unfold lcFO at hf
    cases htg : T ds0[i] (wipeE ρ vs) with
    | none => rw [htg] at hf; cases hf
    | some ρ2 =>
      rw [htg] at hf
      have hf : (C ρ2 >>= fun b => if b = true then fOwn F ρ2 >>= fun y => (if acc.length < lim then lcFO T C F (wipeE ρ vs) (ds0.drop (i + 1)) (acc ++ [y]) else .stuck) else lcFO T C F (wipeE ρ vs) (ds0.drop (i + 1)) acc) = .ok res := hf
      refine ⟨fun H2 => ∃ G1 acc rs, Nx G' (upd H' Dl (.lst [])) G1 (upd H2 Dl (.lst [])) ∧ Ex G1 H2 ∧ H2 Dl = some (.lst (rs.map V.ref)) ∧ (∀ r ∈ rs, H' r = none) ∧ Dl ∉ rs ∧ OwnL c G1 H2 rs acc ∧ lcFO T C F (wipeE ρ vs) (ds0.drop (i + 1)) acc = .ok res,
        fun H2 ⟨G2, acc2, xs2, a1, a2, a3, a4, a5, a6, a7⟩ => ⟨ds0.length - (i + 1), by omega, rfl, hlt, G2, acc2, xs2, a1, a2, a3, a4, a5, a6, a7⟩, fun x H2 hy => ?_⟩
      obtain ⟨G2, n2, q2⟩ := ylds i G1 H1 x H2 _ hd gd n1.g x1 hy
      have r2 : Rep c G2 H2 (wipeE ρ vs) (wipe σ vs) := wipe_rep (rep.nx (nx1.trans n2)) vs
      refine hg G2 H2 _ _ x _ ρ2 r2 q2 htg _ fun σ2 r3 o w3 => ⟨?_, ?_⟩
      · rw [w3 vs hL, wipe_idem]
      -- behind a step that leaves what stands
      have step : ∀ G3 H3, Nx G1 H1 G3 H3 → ∀ H4, (∀ a, a ≠ Dl → H4 a = H3 a) → H4 Dl = H4 Dl → Ex G3 H4 → Nx G' (upd H' Dl (.lst [])) G3 (upd H4 Dl (.lst [])) := fun G3 H3 m H4 e4 _ x4 => by
        have g3D : G3 Dl = none := by
          rcases m.fr Dl (by rw [hx]; exact fun z => nomatch z) g1D with q | ⟨ys, q⟩
          · exact q
          · have h1 := m.gh Dl _ q
            rw [m.h Dl _ hx] at h1
            cases h1
        refine ⟨n1.g.trans m.g, fun a u h => ?_, fun a u h => ?_, fun a h g => ?_⟩
        · by_cases ha : a = Dl
          · subst ha
            rw [upd_same] at h ⊢
            exact h
          · rw [upd_ne ha] at h ⊢
            rw [e4 a ha]
            exact m.h a u (old a u h)
        · have ha : a ≠ Dl := ne_of_none h g3D
          rw [upd_ne ha]
          exact x4 a u h
        · rcases n1.fr a h g with q | ⟨ys, q⟩
          · by_cases ha : a = Dl
            · rw [ha]; exact .inl g3D
            · refine m.fr a ?_ q
              rw [upd_ne ha] at h
              cases hh : H' a with
              | none => exact absurd hh h
              | some o => rw [old a o hh]; exact fun z => nomatch z
          · exact .inr ⟨ys, m.g a _ q⟩
      have c0 : C ρ2 ≠ .stuck := fun z => by rw [z] at hf; cases hf
      refine ht G2 H2 ρ2 σ2 r3 c0 _ (fun b hb G3 H3 b' n3 eb => ?_) fun y e => by rw [e] at hf; cases hf
      cases eb
      rw [hb, ok_bind] at hf
      have m3 := n2.trans n3
      have ax3 : OwnL c G3 H3 rs acc := ax.keep m3.g fun r hr xs a b => keep_at m3 a b
      cases b with
      | false =>
        show ∃ G1 acc rs, _
        exact ⟨G3, acc, rs, step G3 H3 m3 H3 (fun _ _ => rfl) rfl n3.gh, n3.gh, m3.h Dl _ hx, hrs, hDr, ax3, hf⟩
      | true =>
        rw [if_pos rfl] at hf
        have f0 : F ρ2 ≠ .stuck := fun z => by unfold fOwn at hf; rw [z] at hf; cases hf
        refine he G3 H3 ρ2 σ2 (r3.nx n3) f0 _ (fun y hy2 G4 H4 v n4 q4 => ?_) fun y e => by unfold fOwn at hf; rw [e] at hf; cases hf
        have hf : (ownR y >>= fun y => (if acc.length < lim then lcFO T C F (wipeE ρ vs) (ds0.drop (i + 1)) (acc ++ [y]) else .stuck)) = .ok res := by
          have : fOwn F ρ2 = ownR y := by unfold fOwn; rw [hy2]; rfl
          rw [← this]
          exact hf
        obtain ⟨ys, rfl⟩ := ownR_ok (show _ ≠ Rs.stuck from fun z => by rw [z] at hf; cases hf)
        have hf : (if acc.length < lim then lcFO T C F (wipeE ρ vs) (ds0.drop (i + 1)) (acc ++ [ys]) else .stuck) = .ok res := hf
        obtain ⟨p, xs, rfl, hp3, gp4, hp4, qd⟩ := q4
        have m4 := m3.trans n4
        have hx4 := m4.h Dl _ hx
        have hpD : p ≠ Dl := fun z => by rw [z, m3.h Dl _ hx] at hp3; cases hp3
        by_cases hlen : acc.length < lim
        · rw [if_pos hlen] at hf
          have g4D : G4 Dl = none := by
            rcases m4.fr Dl (by rw [hx]; exact fun z => nomatch z) g1D with q | ⟨ys, q⟩
            · exact q
            · have h1 := m4.gh Dl _ q
              rw [hx4] at h1
              cases h1
          have x4 : Ex G4 (upd H4 Dl (.lst ((rs ++ [p]).map V.ref))) := fun a u h => by
            rw [upd_ne (ne_of_none h g4D)]
            exact n4.gh a u h
          have hp1 : p ∉ rs := fun hm => by
            obtain ⟨⟨zs, hz⟩, _⟩ := ax3.lst p hm
            rw [hp3] at hz
            cases hz
          have ax4 : OwnL c G4 H4 (rs ++ [p]) (acc ++ [ys]) := (ax3.keep n4.g fun r hr xs a b => keep_at n4 a b).append ⟨⟨xs, hp4, gp4, qd⟩, nofun, trivial⟩ fun r hr hm => hp1 (by rw [List.mem_singleton.mp hm] at hr; exact hr)
          refine ⟨rs.map V.ref, hx4, by rw [List.length_map, ax.length]; exact lim_lt hlen, G4, acc ++ [ys], rs ++ [p], ?_, ?_, ?_, fun r hr => ?_, fun hm => ?_, ?_, hf⟩
          · have := step G4 H4 m4 (upd H4 Dl (.lst ((rs ++ [p]).map V.ref))) (fun a ha => upd_ne ha) rfl x4
            rw [List.map_append] at this
            exact this
          · rw [List.map_append] at x4
            exact x4
          · rw [List.map_append]
            exact upd_same
          · rcases List.mem_append.mp hr with k | k
            · exact hrs r k
            · rw [List.mem_singleton.mp k]
              cases hh : H' p with
              | none => rfl
              | some o => rw [m3.h p o (old p o hh)] at hp3; cases hp3
          · rcases List.mem_append.mp hm with k | k
            · exact hDr k
            · exact hpD (List.mem_singleton.mp k).symm
          · refine ax4.keep (Ex.refl _) fun r hr xs a b => ⟨?_, b⟩
            rw [upd_ne (fun z => ?_)]
            · exact a
            · subst z
              rcases List.mem_append.mp hr with k | k
              · exact hDr k
              · exact hpD (List.mem_singleton.mp k).symm
        · rw [if_neg hlen] at hf
          cases hf
  · have hi2 : i = ds0.length := by omega
    subst hi2
    rw [List.drop_length] at hf
    cases hf
    refine .inl ⟨stops H1 gd, ok _ e0 G1 H1 _ nx1 ⟨Dl, rs, rfl, n.h.back hD, g1D, hx, hDr, fun r hr => n.h.back (hrs r hr), ax⟩⟩
theorem sem_lcO {c : Pc} {E : XK} {wi : TI} {g : TG} {tt : TT} {te : TE} {S : Env → Rs (List PyData)} {T : Tgt} {L vs : List Nat} {C : Env → Rs Bool} {F : Env → Rs Sl} (hi : SemI c E true wi S) (hg : SemTG c g T L) (ht : SemG c E0 tt C RT) (he : SemG c E0 te F (RV c))
    (hL : ∀ i ∈ L, i ∈ vs) : SemG c E (tLc wi g tt te vs) (fLcO S T C F vs) (ROO c) := by
  intro G H ρ σ rep hns Q ok er
  unfold fLcO at hns ok
  cases hr : fLcO1 S T C F vs ρ with
  | stuck => rw [hr] at hns; exact absurd rfl hns
  | err x => rw [hr] at hns; exact absurd rfl hns
  | ok r =>
    refine lc_semO hg ht he hL G H ρ σ (fun R h1 h2 => hi G H ρ σ rep (fun z => ?_) R h1 h2) rep ⟨r, hr⟩ Q fun a e => ok a (by rw [hr] at e ⊢; exact e)
    unfold fLcO1 at hr
    rw [z] at hr
    cases hr
section
variable {ca : Nat → Addr} {X : Cx} {E : XK}
theorem po_lc {elt tg iter : Expr} {ifs : List Expr} {scope : Scope} {own : List (Str × Nat)} {pos : Pos} {wi : TI} {g : Shared → Hp → Addr → List (Str × Addr) → List Addr → TG} {tt : Shared → Hp → Addr → List (Str × Addr) → List Addr → TT} {te : Shared → Hp → Addr → List (Str × Addr) → List Addr → TE} {S : Env → Rs (List PyData)} {T : Tgt} {L : List Nat} {C : Env → Rs Bool} {F : Env → Rs Sl} (hc : X.calm = true) (hN : X.N.Nodup) (hi : JI ca X E true tg iter wi S) (ok : BlkOk X.N X.env.scope scope own)
    (hg : ∀ (s : Shared) (H : Hp) (D : Addr) (cl : List (Str × Addr)) (fp : List Addr), JG ca (X.blk s H scope (compEnvC scope cl D X.env) fp) tg (g s H D cl fp) T L) (ht : ∀ (s : Shared) (H : Hp) (D : Addr) (cl : List (Str × Addr)) (fp : List Addr), JC ca (X.blk s H scope (compEnvC scope cl D X.env) fp) E0 ifs (tt s H D cl fp) C)
    (he : ∀ (s : Shared) (H : Hp) (D : Addr) (cl : List (Str × Addr)) (fp : List Addr), JV ca (X.blk s H scope (compEnvC scope cl D X.env) fp) E0 elt (te s H D cl fp) F) (hL : ∀ i ∈ L, i ∈ own.map (·.2)) (s0 : Shared) (H0 : Hp) (hs : ∀ x, foldedSetIterable iter X.env x = pure x := by intro _; rfl)
    (qg : ∀ s H D cl fp, g s H D cl fp = g s0 H0 0 [] [] := by intro _ _ _ _ _; rfl) (qt : ∀ s H D cl fp, tt s H D cl fp = tt s0 H0 0 [] [] := by intro _ _ _ _ _; rfl) (qe : ∀ s H D cl fp, te s H D cl fp = te s0 H0 0 [] [] := by intro _ _ _ _ _; rfl) :
    PE X (.ListComp elt [⟨tg, iter, ifs, 0⟩] scope pos) (tLc wi (g s0 H0 0 [] []) (tt s0 H0 0 [] []) (te s0 H0 0 [] []) (own.map (·.2))) ∧ SemG ⟨X.K, ca⟩ E (tLc wi (g s0 H0 0 [] []) (tt s0 H0 0 [] []) (te s0 H0 0 [] []) (own.map (·.2))) (fLcO S T C F (own.map (·.2))) (ROO ⟨X.K, ca⟩) :=
  ⟨pe_lc hc hN hi.pi ok (fun s H C cl fp => by rw [← qg s H C cl fp]; exact (hg s H C cl fp).pg) (fun s H C cl fp => by rw [← qt s H C cl fp]; exact (ht s H C cl fp).pts) (fun s H C cl fp => by rw [← qe s H C cl fp]; exact (he s H C cl fp).pe) hs,
    sem_lcO hi.sem (hg s0 H0 0 [] []).sem (ht s0 H0 0 [] []).sem (he s0 H0 0 [] []).sem hL⟩
end
/-! ### sorted(xs), xs lists of our own -/
theorem OwnL.zip {c : Pc} {G H : Hp} : ∀ {rs : List Addr} {dss : List (List PyData)}, OwnL c G H rs dss → ∃ zs : List (Addr × List PyData), zs.map (·.1) = rs ∧ zs.map (·.2) = dss ∧ rs.Nodup ∧ ∀ z ∈ zs, ∃ xs, H z.1 = some (.lst xs) ∧ G z.1 = none ∧ DpAll c.K G xs z.2
  | [], [], _ => ⟨[], rfl, rfl, List.nodup_nil, nofun⟩
  | r :: rs, ds :: dss, h => by
    obtain ⟨zs, h1, h2, h3, h4⟩ := OwnL.zip h.2.2
    exact ⟨(r, ds) :: zs, by rw [List.map_cons, h1], by rw [List.map_cons, h2], List.nodup_cons.mpr ⟨h.2.1, h3⟩, fun z hz => (List.mem_cons.mp hz).elim (fun e => e ▸ h.1) (h4 z)⟩
  | [], _ :: _, h => h.elim
  | _ :: _, [], h => h.elim
theorem OwnL.of_zip {c : Pc} {G H : Hp} : ∀ {zs : List (Addr × List PyData)}, (zs.map (·.1)).Nodup → (∀ z ∈ zs, ∃ xs, H z.1 = some (.lst xs) ∧ G z.1 = none ∧ DpAll c.K G xs z.2) → OwnL c G H (zs.map (·.1)) (zs.map (·.2))
  | [], _, _ => trivial
  | z :: zs, h1, h2 => by
    rw [List.map_cons, List.nodup_cons] at h1
    exact ⟨h2 z List.mem_cons_self, h1.1, OwnL.of_zip h1.2 fun y hy => h2 y (List.mem_cons_of_mem _ hy)⟩
def encO (z : Addr × List PyData) : PyData := .list z.2
def sortDO (dss : List (List PyData)) : Rs (List (List PyData)) := if (alikeB (dss.map PyData.list) && (sortB (dss.map PyData.list) || decide (dss.length ≤ 1)) && depB (dss.map PyData.list) && decide (dss.length ≤ lim)) = true then .ok (dss.mergeSort (PySem.W.dataLe false PyData.list)) else .stuck
def rSortedO (K : PySem.W.Frag) (u : Nat) : List V → Hp → VK → Prop := fun vs H Q => ∃ (a : Addr) (zs : List (Addr × List PyData)), vs = [V.ref a] ∧ H a = some (.lst (zs.map fun z => V.ref z.1)) ∧ (∀ z ∈ zs, Dp K H (.ref z.1) (.list z.2)) ∧ PySem.W.AllAlike (zs.map encO) ∧ (PySem.W.Sortable (zs.map encO) ∨ zs.length ≤ 1) ∧ zs.length ≤ sizeLine ∧ (∀ z ∈ zs, u + 2 + (encO z).depth < cLine) ∧
  ∀ p : Addr, H p = none → Q (.ref p) (upd H p (.lst ((zs.mergeSort (PySem.W.dataLe false encO)).map fun z => V.ref z.1)))
theorem eachO_of {P : Program} {w : World} : ∀ {zs : List (Addr × List PyData)} {us : List Value}, Vals (zs.map fun z => V.ref z.1) us → us = zs.map fun z => Value.ref z.1
  | [], _, .nil => rfl
  | z :: zs, _, .cons r rs => by
    have e1 := eachO_of (P := P) (w := w) rs
    have e2 : _ = Value.ref z.1 := r
    rw [e1, e2]
    rfl
theorem eachO_refs : ∀ zs : List (Addr × List PyData), PySem.W.EachIs (fun (v : Value) (z : Addr × List PyData) => v = .ref z.1) (zs.map fun z => Value.ref z.1) zs
  | [] => .nil
  | z :: zs => .cons rfl (eachO_refs zs)
theorem refsO_each {us : List Value} {zs : List (Addr × List PyData)} (h : PySem.W.EachIs (fun (v : Value) (z : Addr × List PyData) => v = .ref z.1) us zs) : us = zs.map fun z => Value.ref z.1 := by
  induction h with
  | nil => rfl
  | cons r _ ih => rw [List.map_cons, ih, r]
theorem valsO : ∀ zs : List (Addr × List PyData), Vals (zs.map fun z => V.ref z.1) (zs.map fun z => Value.ref z.1)
  | [] => .nil
  | z :: zs => .cons rfl (valsO zs)
theorem cr_sortedO {X : Cx} : CallR X (.builtin "sorted") (rSortedO X.K X.A.units) := by
  intro pins s σ H vs us Q I r h
  obtain ⟨a, zs, rfl, hs, ha, hal, hk, hL, hu, q⟩ := h
  obtain ⟨its, rv, hl, hz⟩ := I.list (show SqL X.K H a (zs.map fun z => V.ref z.1) from .inl (.inl hs))
  rw [Vals.ref1 r]
  obtain rfl := eachO_of (P := X.prog) (w := X.w) rv
  have e1 := eachO_refs zs
  have e2 : PySem.W.EachIs (fun v z => ∃ as, Reads s.heap v (encO z) as) (zs.map fun z => Value.ref z.1) zs := by
    have : ∀ M : List (Addr × List PyData), (∀ z ∈ M, z ∈ zs) → PySem.W.EachIs (fun v z => ∃ as, Reads s.heap v (encO z) as) (M.map fun z => Value.ref z.1) M := by
      intro M
      induction M with
      | nil => intro _; exact .nil
      | cons z M ih =>
        intro hM
        exact .cons (Dp.reads I (encO z) _ _ (ha z (hM z List.mem_cons_self)) rfl) (ih fun y hy => hM y (List.mem_cons_of_mem _ hy))
    exact this zs fun z hz => hz
  rcases hk with hk | h1
  case inr =>
    refine sorted_small hl.isList (by rw [List.length_map]; exact h1) ?_
    obtain ⟨ep, he'⟩ := PyProof.Rows.sortedAll_at s.heap (zs.map fun z => Value.ref z.1) (zs.map fun z => Value.ref z.1).toArray
    have eb : zs.mergeSort (PySem.W.dataLe false encO) = zs := sort_small h1
    exact ⟨.ref _, upd H (s.heap.objs.size + 1) (.lst (zs.map fun z => V.ref z.1)), I.laid (t' := s.toks) (fun _ _ => PyProof.Rows.sortedAll_old) (Nat.le_succ _) ⟨by rw [List.length_map]; exact hL, _, ep, rv, he'⟩, rfl, by
      have := q (s.heap.objs.size + 1) (I.hok.fresh (Nat.le_succ _))
      rw [eb] at this
      exact this⟩
  refine PySem.W.sorted_data (enc := encO) (bs := zs) (R := fun (v : Value) (z : Addr × List PyData) => v = .ref z.1) hl.isList e1 e2 hal hk hL hu fun out ho he => ?_
  have hout := refsO_each he
  obtain ⟨ep, he'⟩ := PyProof.Rows.sortedAll_at s.heap (zs.map fun z => Value.ref z.1) out.toArray
  have rv2 : Vals ((zs.mergeSort (PySem.W.dataLe false encO)).map fun z => V.ref z.1) out := by rw [hout]; exact valsO _
  exact ⟨.ref _, upd H (s.heap.objs.size + 1) (.lst ((zs.mergeSort (PySem.W.dataLe false encO)).map fun z => V.ref z.1)), I.laid (t' := s.toks) (fun _ _ => PyProof.Rows.sortedAll_old) (Nat.le_succ _) ⟨by rw [List.length_map, List.length_mergeSort]; exact hL, out, ep, rv2, he'⟩, rfl, q _ (I.hok.fresh (Nat.le_succ _))⟩
def fSortO (F : Env → Rs (List (List PyData))) : Env → Rs (List (List PyData)) := fun ρ => F ρ >>= sortDO
theorem sem_sortO {c : Pc} {E : XK} {u : Nat} {te : TE} {F : Env → Rs (List (List PyData))} (h : SemG c E te F (ROO c)) (hu : u + 64 < cLine) : SemG c E (tCB (rSortedO c.K u) (tCons te tNil)) (fSortO F) (ROO c) := fun G H ρ σ rep hns Q ok er => by
  refine h.use rep hns er fun dss ed e1 G1 H1 v n1 r1 q1 h1 er1 => ?_
  obtain ⟨p, rs, rfl, p1, p2, p3, p4, p5, p6⟩ := q1
  obtain ⟨zs, rfl, rfl, z3, z4⟩ := p6.zip
  by_cases hc : (alikeB ((zs.map (·.2)).map PyData.list) && (sortB ((zs.map (·.2)).map PyData.list) || decide ((zs.map (·.2)).length ≤ 1)) && depB ((zs.map (·.2)).map PyData.list) && decide ((zs.map (·.2)).length ≤ lim)) = true
  case neg => exact absurd (show sortDO (zs.map (·.2)) = .stuck from if_neg hc) h1
  have hc2 := hc
  have em : (zs.map (·.2)).map PyData.list = zs.map encO := by rw [List.map_map]; rfl
  rw [em, List.length_map, Bool.and_eq_true, Bool.and_eq_true, Bool.and_eq_true, decide_eq_true_eq] at hc2
  obtain ⟨⟨⟨c1, c2⟩, c3⟩, c4⟩ := hc2
  refine ⟨p, zs, rfl, by rw [p3, List.map_map]; rfl, fun z hz => ?_, alikeB_iff c1, (by
    rw [Bool.or_eq_true, decide_eq_true_eq] at c2
    exact c2.imp sortB_iff id), lim_le c4, fun z hz => ?_, fun q hq => ?_⟩
  · obtain ⟨xs, a1, a2, a3⟩ := z4 z hz
    exact .lst (.inl (.inl a1)) (DpAll.ex n1.gh a3)
  · have := List.all_eq_true.mp c3 _ (List.mem_map.mpr ⟨z, hz, rfl⟩)
    rw [decide_eq_true_eq] at this
    omega
  · have hsorted : (zs.map (·.2)).mergeSort (PySem.W.dataLe false PyData.list) = (zs.mergeSort (PySem.W.dataLe false encO)).map (·.2) := (List.map_mergeSort (r := PySem.W.dataLe false encO) (s := PySem.W.dataLe false PyData.list) (f := fun z : Addr × List PyData => z.2) (l := zs) fun a _ b _ => rfl).symm
    have pm := List.mergeSort_perm zs (PySem.W.dataLe false encO)
    generalize zs.mergeSort (PySem.W.dataLe false encO) = ys at hsorted pm
    have n2 : Nx G1 H1 G1 (upd H1 q (.lst (ys.map fun z => V.ref z.1))) := Nx.hid n1.gh hq
    have hqn : q ∉ ys.map (·.1) := fun hm => by
      obtain ⟨z, hz, rfl⟩ := List.mem_map.mp hm
      obtain ⟨xs, a1, _⟩ := z4 z (pm.mem_iff.mp hz)
      rw [hq] at a1
      cases a1
    have nd : (ys.map (·.1)).Nodup := (pm.map (·.1)).nodup_iff.mpr z3
    have ol : OwnL c G1 H1 (ys.map (·.1)) (ys.map (·.2)) := OwnL.of_zip nd fun z hz => z4 z (pm.mem_iff.mp hz)
    refine ok _ (by unfold fSortO; rw [ed, ok_bind]; exact if_pos hc) G1 _ _ (n1.trans n2) ⟨q, ys.map (·.1), rfl, n1.h.back hq, n1.gh.back hq, by rw [upd_same, List.map_map]; rfl, hqn, fun r hr => ?_, ?_⟩
    · obtain ⟨z, hz, rfl⟩ := List.mem_map.mp hr
      exact p5 _ (List.mem_map.mpr ⟨z, pm.mem_iff.mp hz, rfl⟩)
    · rw [hsorted]
      exact ol.keep (Ex.refl _) fun r hr xs a b => keep_at n2 a b
theorem po_sorted {ca : Nat → Addr} {X : Cx} {E : XK} {a : Expr} {ta : TE} {Fa : Env → Rs (List (List PyData))} {p pos : Pos} (ha : PE X a ta ∧ SemG ⟨X.K, ca⟩ E ta Fa (ROO ⟨X.K, ca⟩)) (hm : X.mg "sorted" = none) (hu : X.A.units + 64 < cLine) (hg : Gl X "sorted" := by rfl) (hst : starEach [a] X.env = (false, eval a X.env) :: starEach [] X.env := by rfl) :
    PE X (.Call (.Name "sorted" p) [a] [] pos) (tCB (rSortedO X.K X.A.units) (tCons ta tNil)) ∧ SemG ⟨X.K, ca⟩ E (tCB (rSortedO X.K X.A.units) (tCons ta tNil)) (fSortO Fa) (ROO ⟨X.K, ca⟩) :=
  ⟨pe_callB cr_sortedO hg hm (by decide +kernel) (pa_cons ha.1 pa_nil hst) (he := hst), sem_sortO ha.2 hu⟩
/-! ### a body that ends with what tells lists of our own -/
structure JOQ (ca : Nat → Addr) (X : Cx) (E : XK) (sts : List Stmt) (t : TS) (F : Env → Rs (List (List PyData))) : Prop where
  ps : PSs X sts t
  sem : ∀ (G0 H0 G H : Hp) (ρ : Env) (σ : L2.St), Rep ⟨X.K, ca⟩ G H ρ σ → Ent G0 H0 G H ρ σ → F ρ ≠ .stuck → ∀ D : Ends, (∀ dss, F ρ = .ok dss → ∀ G' H' v, Nx G0 H0 G' H' → ROO ⟨X.K, ca⟩ G0 H0 G' H' v dss → D.rt v H') → ErrP ⟨X.K, ca⟩ E G0 H0 (F ρ) → t D σ H
def outO : Rs Out → (Env → Rs (List (List PyData))) → Rs (List (List PyData))
  | .ok (.nx ρ), k => k ρ
  | .err x, _ => .err x
  | _, _ => .stuck
def fSeqO (B : Env → Rs Out) (F : Env → Rs (List (List PyData))) : Env → Rs (List (List PyData)) := fun ρ => outO (B ρ) F
section
variable {ca : Nat → Addr} {X : Cx} {E : XK}
theorem jq_ret {e : Expr} {te : TE} {F : Env → Rs (List (List PyData))} {pos : Pos} (h : PE X e te ∧ SemG ⟨X.K, ca⟩ E te F (ROO ⟨X.K, ca⟩)) : JOQ ca X E [.Return (some e) pos] (tRet te) F :=
  ⟨pss_one (ps_ret h.1), fun G0 H0 G H ρ σ rep en hns D rt er => h.2 G H ρ σ rep hns _ (fun a ea G' H' v n q => rt a ea G' H' v (en.nx.trans n) (ROO.mono en.nx q)) fun x e G' H' cl dd n => er x e G' H' cl dd (en.nx.trans n)⟩
theorem jq_fz {sts : List Stmt} {t : TS} {F : Env → Rs (List (List PyData))} (i : Nat) (h : JOQ ca X E sts t F) : JOQ ca X E sts t (fun ρ => F (fz1 i ρ)) :=
  ⟨h.ps, fun G0 H0 G H ρ σ rep en hns D rt er => by
    obtain ⟨G', r', e'⟩ := fz_rep i rep en
    exact h.sem G0 H0 G' H _ σ r' e' hns D rt er⟩
theorem jq_cons {st : Stmt} {sts : List Stmt} {t u : TS} {B : Env → Rs Out} {F : Env → Rs (List (List PyData))} (h : JP ca X E st t B) (h' : JOQ ca X E sts u F) : JOQ ca X E (st :: sts) (tSeq t u) (fSeqO B F) :=
  ⟨pss_cons h.ps h'.ps, fun G0 H0 G H ρ σ rep en hns D rt er => by
    unfold fSeqO at hns rt er
    refine h.sem G0 H0 G H ρ σ rep en (fun z => hns (by rw [z]; rfl)) _ (fun ρ' e G' H' σ' rep' en' => ?_) (fun s e G' H' v n q => ?_) fun x e => er x (by rw [e]; rfl)
    · rw [e] at hns rt er
      exact h'.sem G0 H0 G' H' ρ' σ' rep' en' hns D rt er
    · exact absurd (by rw [e]; rfl) hns⟩
end
theorem fn_okQ {P : Program} {w : World} {K : PySem.W.Frag} {mg : Str → Option Value} {base : Heap} {ca : Nat → Addr} {x qual : Str} {st : Stmt} {f : Addr} {fd : FuncData} {N ps : List Str} {k : Nat} (F : Fun K x qual st f fd) (S : FnScope N ps (defScope st)) (FF : Env → Rs (List (List PyData)))
    (hb : ∀ (cdv : Value) (A : Around) (outer : List PySem.Env) (s : Shared) (H : Hp) (E : XK), Room k (A.deeper (PyProof.Rows.envOfC qual (defScope st) s.heap.objs.size f cdv)) →
      CxOk (cxOf (L2.CX P w) P w K mg base N qual (defScope st) f cdv A outer s H E) E →
      ∃ t, JOQ ca (cxOf (L2.CX P w) P w K mg base N qual (defScope st) f cdv A outer s H E) E (defBody st) t FF) (hnp : ps.length ≤ N.length := by decide) :
    FnOk P w K mg base (L2.CX P w) (k + 1) f fd ps (spOO ⟨K, ca⟩ (fnO ps.length N.length FF) ps.length) := by
  refine F.okX S (fun vs H Q E h => ?_) (fun cdv A outer s H vs Q E hr h => ?_)
  · obtain ⟨G, ds, _, a, e, _⟩ := h
    rw [DpAll.length a, e]
  · obtain ⟨G, ds, e, a, el, hns, hok, her⟩ := h
    have o : CxOk (cxOf (L2.CX P w) P w K mg base N qual (defScope st) f cdv A outer s H E) E :=
      ⟨rfl, by have := hr.un; show (A.deeper _).units + 200 < cLine; omega, S.nd, passes_of rfl, passes_call (takes_of rfl rfl rfl rfl) fun _ _ _ _ z => z, takes_of rfl rfl rfl rfl⟩
    obtain ⟨t, hps, hsem⟩ := hb cdv A outer s H E hr o
    refine ⟨t, hps, ?_⟩
    have rep : Rep ⟨K, ca⟩ G H (ds.map Sl.sh ++ List.replicate (N.length - ds.length) Sl.no) (L2.start N vs) := start_rep e a (by rw [el]; exact hnp)
    have key : ∀ r, FF (ds.map Sl.sh ++ List.replicate (N.length - ds.length) Sl.no) = r → fnO ps.length N.length FF ds = r := fun r z => by unfold fnO; rw [if_pos el, ← el, z]
    have noown : ∀ (i : Nat) (s : Sl), (ds.map Sl.sh ++ List.replicate (N.length - ds.length) Sl.no)[i]? = some s → s.own = false := fun i s hs => by
      have hm := List.mem_of_getElem? hs
      rcases List.mem_append.mp hm with k | k
      · obtain ⟨d, _, rfl⟩ := List.mem_map.mp k; rfl
      · rw [List.eq_of_mem_replicate k]; rfl
    exact hsem G H G H _ _ rep ⟨Nx.refl e, fun i s p h1 h2 _ => by rw [noown i s h1] at h2; cases h2⟩ (fun z => hns (key _ z)) _ (fun dss z G' H' v n q => hok dss (key _ z) G' H' v n q) fun y z => her y (key _ z)
/-! ### x = e; if t: return ..; for y in x: .. with e a list of our own of lists of our own -/
theorem show_own {c : Pc} {G H H1 : Hp} : ∀ {rs : List Addr} {dss : List (List PyData)} {G1 : Hp}, Nx G H G1 H1 → OwnL c G1 H1 rs dss → (∀ r ∈ rs, H r = none) → ∃ G2, Nx G H G2 H1 ∧ Ex G1 G2 ∧ DpAll c.K G2 (rs.map V.ref) (dss.map PyData.list) ∧ ∀ a, a ∉ rs → G2 a = G1 a
  | [], [], G1, n, _, _ => ⟨G1, n, Ex.refl _, .nil, fun _ _ => rfl⟩
  | r :: rs, ds :: dss, G1, n, h, hr => by
    obtain ⟨⟨xs, h1, h2, h3⟩, h4, h5⟩ := h
    have m := n.show (hr r List.mem_cons_self) h1 h2
    have x1 : Ex G1 (upd G1 r (.lst xs)) := Ex.new h2
    have h5' : OwnL c (upd G1 r (.lst xs)) H1 rs dss := h5.keep x1 fun r' hr' ys a b => ⟨a, by rw [upd_ne (show r' ≠ r from fun z => h4 (z ▸ hr'))]; exact b⟩
    obtain ⟨G2, m2, x2, d2, k2⟩ := show_own m h5' fun r' hr' => hr r' (List.mem_cons_of_mem _ hr')
    refine ⟨G2, m2, x1.trans x2, .cons (.lst (.inl (.inl (x2 _ _ upd_same))) (DpAll.ex (x1.trans x2) h3)) d2, fun a ha => ?_⟩
    rw [k2 a fun z => ha (List.mem_cons_of_mem _ z), upd_ne (show a ≠ r from fun z => ha (z ▸ List.mem_cons_self))]
  | [], _ :: _, _, _, h, _ => h.elim
  | _ :: _, [], _, _, h, _ => h.elim
def rowsOf : List PyData → Option (List (List PyData))
  | [] => some []
  | .list ds :: xs => (rowsOf xs).map fun r => ds :: r
  | _ :: _ => none
theorem rowsOf_map : ∀ dss : List (List PyData), rowsOf (dss.map PyData.list) = some dss
  | [] => rfl
  | ds :: dss => by rw [List.map_cons]; unfold rowsOf; rw [rowsOf_map dss]; rfl
def fSetO (i : Nat) (Fc : Env → Rs (List (List PyData))) : Env → Rs Out := fun ρ => Fc ρ >>= fun dss => if i < ρ.length then .ok (.nx (ρ.set i (.sh (.list (dss.map PyData.list))))) else .stuck
def trRows : Option Sl → Option (List (List PyData))
  | some (.sh (.list ds)) => rowsOf ds
  | _ => none
def optRs {α β : Type} : Option α → (α → Rs β) → Rs β
  | some a, k => k a
  | none, _ => .stuck
def fForTr (i j : Nat) (B : Env → Rs Out) : Env → Rs Out := fun ρ => optRs (trRows ρ[i]?) fun dss => goOO j B dss (ρ.set i .no)
def fTree (i j : Nat) (Fc : Env → Rs (List (List PyData))) (FT : Env → Rs Bool) (FA B FR : Env → Rs Out) : Env → Rs Out := fSeq (fSetO i Fc) (fSeq (fIf FT FA fSkip) (fSeq (fForTr i j B) FR))
theorem fTree_eq (i j : Nat) (Fc : Env → Rs (List (List PyData))) (FT : Env → Rs Bool) (FA B FR : Env → Rs Out) (s0 : Sl) (h : ∀ ρ, FA ρ = .ok (.rt s0)) (ρ : Env) : fTree i j Fc FT FA B FR ρ = (Fc ρ >>= fun dss => if i < ρ.length then FT (ρ.set i (.sh (.list (dss.map PyData.list)))) >>= fun b => if b = true then .ok (.rt s0) else after (goOO j B dss (ρ.set i .no)) FR else .stuck) := by
  show after (fSetO i Fc ρ) _ = _
  unfold fSetO
  cases Fc ρ with
  | stuck => rfl
  | err x => rfl
  | ok dss =>
    rw [ok_bind, ok_bind]
    by_cases hi : i < ρ.length
    · rw [if_pos hi, if_pos hi, after_nx]
      show after (fIf FT FA fSkip _) _ = _
      unfold fIf
      cases FT (ρ.set i (.sh (.list (dss.map PyData.list)))) with
      | stuck => rfl
      | err x => rfl
      | ok b =>
        rw [ok_bind, ok_bind]
        cases b with
        | true => rw [if_pos rfl, if_pos rfl, h]; rfl
        | false =>
          rw [if_neg Bool.false_ne_true, if_neg Bool.false_ne_true]
          unfold fSkip
          rw [after_nx]
          show after (fForTr i j B _) FR = _
          unfold fForTr
          rw [List.getElem?_set, if_pos rfl, if_pos hi, List.set_set]
          show after (optRs (rowsOf (dss.map PyData.list)) _) FR = _
          rw [rowsOf_map]
          rfl
    · rw [if_neg hi, if_neg hi]; rfl
theorem jps_tree {ca : Nat → Addr} {X : Cx} {E : XK} {pos p1 p2 p3 p4 : Pos} (i j : Nat) {x : Str} {e T tg : Expr} {sa body rest : List Stmt} {te : TE} {tt : TT} {ta tb tr : TS} {Fc : Env → Rs (List (List PyData))} {FT : Env → Rs Bool} {FA B FR : Env → Rs Out} (s0 : Sl) (hFA : ∀ ρ, FA ρ = .ok (.rt s0)) (he : PE X e te ∧ SemG ⟨X.K, ca⟩ E te Fc (ROO ⟨X.K, ca⟩))
    (hT : JT ca X E T tt FT) (hA : JPs ca X E sa ta FA) (hg : PG X tg (gName j)) (hb : JPs ca X E body tb B) (hR : JPs ca X E rest tr FR) (hx0 : PE X (.Name x p4) (tVar i)) (hp : PassesOwn (model X.prog X.w) X.A X.env X.xe) (hc : X.calm = true) (hN : X.N.Nodup) (hi : X.N[i]? = some x) (hx : Loc X.env.scope x)
    (hs : swapsWith e (some (.Name x p1)) p2.line X.env = pure false := by rfl) (hfs : ∀ y, foldedSetIterable (.Name x p4) X.env y = pure y := by intro _; rfl)
    (hf : X.fn x = true ∨ X.env.scope.names.lookup x = some .local := by first | exact .inl rfl | exact .inr rfl) :
    JPs ca X E (.Assign [.Name x p1] e p2 :: .If T sa [] p3 :: .For tg (.Name x p4) body [] pos :: rest) (tSeq (tAsg te (gName i)) (tSeq (tIfS tt ta tNext) (tSeq (tFor (iList X.K (tVar i)) (gName j) tb) tr))) (fTree i j Fc FT FA B FR) := by
  refine ⟨pss_cons (ps_set hN hi hx he.1 hs hf) (pss_cons (ps_if hT.pt hA.ps pss_nil) (pss_cons (ps_for hp hc (pi_list hx0) hg hb.ps hfs) hR.ps)), fun G0 H0 G H ρ σ rep en hns D nx rt er => ?_⟩
  have e0 := fTree_eq i j Fc FT FA B FR s0 hFA ρ
  rw [e0] at hns
  refine he.2.use (k := fun dss => if i < ρ.length then FT (ρ.set i (.sh (.list (dss.map PyData.list)))) >>= fun b => if b = true then .ok (.rt s0) else after (goOO j B dss (ρ.set i .no)) FR else .stuck) rep hns (fun x e G' H' cl dd n => er x (e0.trans e) G' H' cl dd (en.nx.trans n)) fun dss ed e1 G1 H1 v n1 r1 q1 hk er1 => ?_
  obtain ⟨p, rs, rfl, hp0, gp, hp1, hpr, hr, ho⟩ := q1
  by_cases hil : i < ρ.length
  case neg => rw [if_neg hil] at hk; exact absurd rfl hk
  rw [if_pos hil] at hk e1
  have e2 : fTree i j Fc FT FA B FR ρ = (FT (ρ.set i (.sh (.list (dss.map PyData.list)))) >>= fun b => if b = true then .ok (.rt s0) else after (goOO j B dss (ρ.set i .no)) FR) := e0.trans e1
  have nh : ∀ a, H a = none → ¬ HldA ρ σ a := fun a ha ⟨i, s, h1, h2, h3⟩ => by
    obtain ⟨o, e2, q⟩ := rep.sl i s h1
    rw [h3] at e2
    cases e2
    cases s with
    | no => cases h2
    | sh d => cases h2
    | exn x => cases h2
    | hal _ _ => cases h2
    | ol ds => obtain ⟨b, xs, z, _, hb, _⟩ := q; cases z; rw [ha] at hb; cases hb
    | od ds => obtain ⟨b, xs, z, _, hb, _⟩ := q; cases z; rw [ha] at hb; cases hb
  have hisl : i < σ.length := by rw [← rep.len]; exact hil
  -- all of it visible
  obtain ⟨G2, n2, x2, d2, k2⟩ := show_own n1 ho hr
  have gp2 : G2 p = none := by rw [k2 p hpr]; exact gp
  have n3 : Nx G H (upd G2 p (.lst (rs.map V.ref))) H1 := n2.show hp0 hp1 gp2
  have x3 : Ex G2 (upd G2 p (.lst (rs.map V.ref))) := Ex.new gp2
  have dp : Dp X.K (upd G2 p (.lst (rs.map V.ref))) (.ref p) (.list (dss.map PyData.list)) := .lst (.inl (.inl upd_same)) (DpAll.ex x3 d2)
  have r3 : Rep ⟨X.K, ca⟩ (upd G2 p (.lst (rs.map V.ref))) H1 (ρ.set i (.sh (.list (dss.map PyData.list)))) (σ.set i (some (.ref p))) := (rep.nx n3).set rfl ⟨_, rfl, dp⟩
  show tIfS tt ta tNext _ (σ.set i (some (V.ref p))) H1
  refine hT.sem.use (k := fun b => if b = true then .ok (.rt s0) else after (goOO j B dss (ρ.set i .no)) FR) r3 hk (fun y ey G' H' cl dd n => er y (e2.trans ey) G' H' cl dd ((en.nx.trans n3).trans n)) fun b eb e4 G4 H4 b' n4 r4 q4 hk4 er4 => ?_
  cases q4
  -- hidden again
  have n5 : Nx G H G1 H4 := ⟨n1.g, n1.h.trans n4.h, (x2.trans x3).trans (n4.g.trans n4.gh), n1.fr⟩
  have r5 : Rep ⟨X.K, ca⟩ G1 H4 (ρ.set i .no) (σ.set i (some (.ref p))) := (rep.nx n5).set rfl trivial
  have sub : ∀ a, HldA (ρ.set i .no) (σ.set i (some (.ref p))) a → HldA ρ σ a := fun a ⟨k, s, h1, h2, h3⟩ => by
    by_cases hik : i = k
    · rw [List.getElem?_set, if_pos hik] at h1
      rw [if_pos hil] at h1
      cases h1
      cases h2
    · rw [List.getElem?_set, if_neg hik] at h1 h3
      exact ⟨k, s, h1, h2, h3⟩
  have en5 : Ent G0 H0 G1 H4 (ρ.set i .no) (σ.set i (some (.ref p))) := ⟨en.nx.trans n5, fun k s q h1 h2 h3 => by
    obtain ⟨k', s', h1', h2', h3'⟩ := sub q ⟨k, s, h1, h2, h3⟩
    exact en.own k' s' q h1' h2' h3'⟩
  have hp4 : H4 p = some (.lst (rs.map V.ref)) := n4.h _ _ hp1
  have e5 := e2.trans e4
  cases b with
  | true =>
    show ta _ (σ.set i (some (V.ref p))) H4
    rw [if_pos rfl] at e5
    have eA := hFA (ρ.set i .no)
    refine hA.sem G0 H0 G1 H4 _ _ r5 en5 (fun z => by rw [eA] at z; cases z) _ (fun ρ' e G' H' σ' rep' en' => by rw [eA] at e; cases e) (fun s e => rt s (e5.trans (eA.symm.trans e))) fun y e => by rw [eA] at e; cases e
  | false =>
    rw [if_neg Bool.false_ne_true] at hk4 e5
    have r0 : goOO j B dss (ρ.set i .no) ≠ .stuck := fun z => hk4 (by rw [z]; rfl)
    have ho4 : OwnL ⟨X.K, ca⟩ G1 H4 rs dss := ho.keep (Ex.refl _) fun r hm xs a b => ⟨n4.h _ _ a, b⟩
    show (tFor (iList X.K (tVar i)) (gName j) tb) _ (σ.set i (some (V.ref p))) H4
    refine ⟨.ref p, by rw [List.getElem?_set, if_pos rfl, if_pos hisl], p, rfl, ⟨_, .inl (.inl hp4)⟩, loop_oo (D := { D with nx := tr D }) hb.sem r0 (fun ρ' e G' H' σ' rep' en' => ?_) (fun s e => rt s (e5.trans (by rw [e]; rfl))) (fun y e => er y (e5.trans (by rw [e]; rfl))) r5 en5 hp4 gp (fun z => nh p hp0 (sub p z)) ho4 hpr (fun r hm z => nh r (hr r hm) (sub r z)) (fun r hm => en.nx.h.back (hr r hm)) rfl⟩
    have e6 : after (goOO j B dss (ρ.set i .no)) FR = FR ρ' := by rw [e]; rfl
    rw [e6] at hk4 e5
    exact hR.sem G0 H0 G' H' ρ' σ' rep' en' hk4 D (fun ρ2 e => nx ρ2 (e5.trans e)) (fun s e => rt s (e5.trans e)) fun y e => er y (e5.trans e)
theorem jps_treeF {ca : Nat → Addr} {X : Cx} {E : XK} {pos p1 p2 p3 p4 : Pos} (q i j : Nat) {x : Str} {e T tg : Expr} {sa body rest : List Stmt} {te : TE} {tt : TT} {ta tb tr : TS} {Fc : Env → Rs (List (List PyData))} {FT : Env → Rs Bool} {FA B FR : Env → Rs Out} (s0 : Sl) (hFA : ∀ ρ, FA ρ = .ok (.rt s0)) (he : PE X e te ∧ SemG ⟨X.K, ca⟩ E te Fc (ROO ⟨X.K, ca⟩))
    (hT : JT ca X E T tt FT) (hA : JPs ca X E sa ta FA) (hg : PG X tg (gName j)) (hb : JPs ca X E body tb B) (hR : JPs ca X E rest tr FR) (hx0 : PE X (.Name x p4) (tVar i)) (hp : PassesOwn (model X.prog X.w) X.A X.env X.xe) (hc : X.calm = true) (hN : X.N.Nodup) (hi : X.N[i]? = some x) (hx : Loc X.env.scope x)
    (hs : swapsWith e (some (.Name x p1)) p2.line X.env = pure false := by rfl) (hfs : ∀ y, foldedSetIterable (.Name x p4) X.env y = pure y := by intro _; rfl)
    (hf : X.fn x = true ∨ X.env.scope.names.lookup x = some .local := by first | exact .inl rfl | exact .inr rfl) :
    JPs ca X E (.Assign [.Name x p1] e p2 :: .If T sa [] p3 :: .For tg (.Name x p4) body [] pos :: rest) (tSeq (tAsg te (gName i)) (tSeq (tIfS tt ta tNext) (tSeq (tFor (iList X.K (tVar i)) (gName j) tb) tr))) (fSeq (fFz q (fSetO i Fc)) (fSeq (fIf FT FA fSkip) (fSeq (fForTr i j B) FR))) :=
  jps_fz q (jps_tree i j s0 hFA he hT hA hg hb hR hx0 hp hc hN hi hx hs hfs hf)
end PF

namespace PF
open PySem L2
/-! ### k not in d, d a dict of our own -/
def notD : PyData → Rs PyData
  | .bool b => .ok (.bool (!b))
  | _ => .stuck
def fDNin (i : Nat) (F : Env → Rs PyData) : Env → Rs PyData := fun ρ => fDIn i F ρ >>= notD
section
variable {ca : Nat → Addr} {X : Cx} {E : XK} {p pos : Pos} {x : Str} {k : Expr} {tk : TE} {Fk : Env → Rs PyData}
theorem sem_dnin (i : Nat) (hk : SemG ⟨X.K, ca⟩ E tk Fk (RS ⟨X.K, ca⟩)) : SemG ⟨X.K, ca⟩ E (tDNotIn tk (tVar i)) (fDNin i Fk) (RS ⟨X.K, ca⟩) := fun G H ρ σ rep hns Q ok er => by
  have e0 : fDNin i Fk ρ = (Fk ρ >>= fun kd => keyOf kd >>= fun k => ownT ρ[i]? >>= fun ds => .ok (.bool (!(getI ds k).isSome))) := by
    unfold fDNin fDIn
    cases Fk ρ with
    | stuck => rfl
    | err y => rfl
    | ok kd =>
      rw [ok_bind, ok_bind]
      cases keyOf kd with
      | stuck => rfl
      | err y => rfl
      | ok kk =>
        rw [ok_bind, ok_bind]
        cases ownT ρ[i]? <;> rfl
  rw [e0] at hns er
  refine hk.use rep hns er fun kd ek e3 G2 H2 w n2 r2 q2 h2 er2 => ?_
  cases hko : keyOf kd with
  | stuck => exact absurd (by rw [hko]; rfl) h2
  | err y => exact absurd hko keyOf_ne
  | ok kk =>
    rw [hko, ok_bind] at h2
    obtain ⟨ds, hs⟩ := ownT_ok h2
    obtain ⟨o', e4, p', es', rfl, gp2, hp2, qq2⟩ := r2.sl i _ hs
    obtain ⟨b, rfl, hb⟩ := key_at (show Dp X.K G2 w kd from q2) hko
    refine ⟨.ref p', e4, p', valV es' (kk.map Sum.inl), rfl, DGet.t hp2 (n2.gh _ _ hb), ?_⟩
    have e : (valV es' (kk.map Sum.inl)).isSome = (getI ds kk).isSome := by
      rcases kv_get kk qq2 with ⟨g1, g2⟩ | ⟨u, d, g1, g2, g3⟩ <;> rw [g1, g2] <;> rfl
    rw [e]
    exact ok _ (by rw [e0, ek, ok_bind, hko, ok_bind, hs]; rfl) G2 H2 _ n2 (.bl _)
theorem js_dnin (i : Nat) (hu : X.A.units + 64 < cLine) (hx : PE X (.Name x p) (tVar i)) (hk : JS ca X E k tk Fk) (hm : behindInMarks .NotIn (.Name x p) = false := by first | rfl | with_unfolding_all rfl) : JS ca X E (.Compare k [.NotIn] [.Name x p] pos) (tDNotIn tk (tVar i)) (fDNin i Fk) :=
  ⟨pe_cmp (pc_dnotin (by omega) hk.pe hx) hm, sem_dnin i hk.sem⟩
theorem jt_dnin (i : Nat) (hu : X.A.units + 64 < cLine) (hx : PE X (.Name x p) (tVar i)) (hk : JS ca X E k tk Fk) (hm : behindInMarks .NotIn (.Name x p) = false := by first | rfl | with_unfolding_all rfl) : JT ca X E (.Compare k [.NotIn] [.Name x p] pos) (tB (tDNotIn tk (tVar i))) (fB (fDNin i Fk)) :=
  ⟨pt_cmp (pc_dnotin (by omega) hk.pe hx) hm, sem_test (sem_dnin i hk.sem)⟩
end
end PF

namespace PF
open PySem L2

/-! ### a hall: an instance of the class that stands behind the errors -/
abbrev halO (C dx : Addr) (m : Int) (p : Addr) : HO := .ins C dx [("many", .int m), ("standing", .ref p)]
structure HK (K : PySem.W.Frag) (ca : Nat → Addr) : Prop where
  c : Cls K (ca 6)
  m : NoAttr K (ca 6) "many"
  s : NoAttr K (ca 6) "standing"
def hM : Option Sl → Rs PyData
  | some (.hal m _) => .ok (.int m)
  | _ => .stuck
def hS : Option Sl → Rs PyData
  | some (.hal _ ds) => .ok (.list ds)
  | _ => .stuck
def fHalM (i : Nat) : Env → Rs PyData := fun ρ => hM ρ[i]?
def fHalS (i : Nat) : Env → Rs PyData := fun ρ => hS ρ[i]?
theorem hM_ok {o : Option Sl} (h : hM o ≠ .stuck) : ∃ m ds, o = some (.hal m ds) := by
  unfold hM at h
  split at h
  · exact ⟨_, _, rfl⟩
  · exact absurd rfl h
theorem hS_ok {o : Option Sl} (h : hS o ≠ .stuck) : ∃ m ds, o = some (.hal m ds) := by
  unfold hS at h
  split at h
  · exact ⟨_, _, rfl⟩
  · exact absurd rfl h
section
variable {ca : Nat → Addr} {X : Cx} {E : XK}
theorem js_halM (T : HK X.K ca) (i : Nat) {x : Str} {p1 p2 : Pos} (h : PE X (.Name x p1) (tVar i)) (hb : attributeBase (.Name x p1) "many" X.env (eval (.Name x p1) X.env) = eval (.Name x p1) X.env := by rfl) :
    JS ca X E (.Attribute (.Name x p1) "many" p2) (tFld X.K (tVar i) "many") (fHalM i) := by
  refine ⟨pe_fld h hb, fun G H ρ σ rep hns Q ok er => ?_⟩
  obtain ⟨m, ds, hs⟩ := hM_ok hns
  obtain ⟨o, e1, a, dx, p, rfl, ga, ha, q⟩ := rep.sl i _ hs
  have e0 : fHalM i ρ = .ok (.int m) := by unfold fHalM; rw [hs]; rfl
  exact ⟨.ref a, e1, a, _, dx, _, .int m, rfl, ha, T.c, T.m, rfl, ok _ e0 G H _ (Nx.refl rep.gh) (.int m)⟩
theorem js_halS (T : HK X.K ca) (i : Nat) {x : Str} {p1 p2 : Pos} (h : PE X (.Name x p1) (tVar i)) (hb : attributeBase (.Name x p1) "standing" X.env (eval (.Name x p1) X.env) = eval (.Name x p1) X.env := by rfl) :
    JS ca X E (.Attribute (.Name x p1) "standing" p2) (tFld X.K (tVar i) "standing") (fHalS i) := by
  refine ⟨pe_fld h hb, fun G H ρ σ rep hns Q ok er => ?_⟩
  obtain ⟨m, ds, hs⟩ := hS_ok hns
  obtain ⟨o, e1, a, dx, p, rfl, ga, ha, q⟩ := rep.sl i _ hs
  have e0 : fHalS i ρ = .ok (.list ds) := by unfold fHalS; rw [hs]; rfl
  exact ⟨.ref a, e1, a, _, dx, _, .ref p, rfl, ha, T.c, T.s, rfl, ok _ e0 G H _ (Nx.refl rep.gh) q⟩
end

/-! ### a def whose parameters are slots: what it does -/
def fnS (np n : Nat) (F : Env → Rs Out) (ss : List Sl) : Rs Sl := if ss.length = np then outV (F (ss ++ List.replicate (n - np) Sl.no)) else .stuck
theorem start_slots {c : Pc} {G H : Hp} {N : List Str} {vs : List V} {ss : List Sl} (r : Rep c G H ss (vs.map some)) {np : Nat} (hl : ss.length = np) (hn : np ≤ N.length) : Rep c G H (ss ++ List.replicate (N.length - np) Sl.no) (L2.start N vs) := by
  have hv : ss.length = vs.length := by have := r.len; rwa [List.length_map] at this
  have hst : L2.start N vs = vs.map some ++ List.replicate (N.length - vs.length) none := rfl
  have pick : ∀ (i : Nat) s, (ss ++ List.replicate (N.length - np) Sl.no)[i]? = some s → (ss[i]? = some s ∧ i < vs.length) ∨ s = .no := fun i s h => by
    by_cases hi : i < ss.length
    · rw [List.getElem?_append_left hi] at h
      exact .inl ⟨h, by omega⟩
    · rw [List.getElem?_append_right (by omega)] at h
      exact .inr (List.mem_replicate.mp (List.mem_of_getElem? h)).2
  refine ⟨r.gh, ?_, fun i s h => ?_, fun i j s s' p h1 h2 w1 w2 f1 f2 => ?_⟩
  · rw [hst]
    simp only [List.length_append, List.length_map, List.length_replicate]
    omega
  · rcases pick i s h with ⟨h1, hi⟩ | rfl
    · obtain ⟨o, e, q⟩ := r.sl i s h1
      exact ⟨o, by rw [hst, List.getElem?_append_left (by rw [List.length_map]; exact hi)]; exact e, q⟩
    · have hlt := (List.getElem?_eq_some_iff.mp h).1
      simp only [List.length_append, List.length_replicate] at hlt
      have : i < (L2.start N vs).length := by
        rw [hst]
        simp only [List.length_append, List.length_map, List.length_replicate]
        omega
      exact ⟨_, List.getElem?_eq_getElem this, trivial⟩
  · rcases pick i s h1 with ⟨a1, hi⟩ | rfl
    · rcases pick j s' h2 with ⟨a2, hj⟩ | rfl
      · rw [hst, List.getElem?_append_left (by rw [List.length_map]; exact hi)] at f1
        rw [hst, List.getElem?_append_left (by rw [List.length_map]; exact hj)] at f2
        exact r.inj i j s s' p a1 a2 w1 w2 f1 f2
      · cases w2
    · cases w1
/-- the promise of a def that looks at halls -/
def spR (c : Pc) (f : List Sl → Rs Sl) (np : Nat) : Sp := fun vs H Q E => ∃ G ss, Rep c G H ss (vs.map some) ∧ ss.length = np ∧ (∀ s ∈ ss, s.own = false) ∧ f ss ≠ .stuck ∧
  (∀ s, f ss = .ok s → ∀ G' H' v, Nx G H G' H' → RV c G H G' H' v s → Q v H') ∧ ErrP c E G H (f ss)
theorem fn_okR {P : Program} {w : World} {K : PySem.W.Frag} {mg : Str → Option Value} {base : Heap} {ca : Nat → Addr} {x qual : Str} {st : Stmt} {f : Addr} {fd : FuncData} {N ps : List Str} {k : Nat} (F : Fun K x qual st f fd) (S : FnScope N ps (defScope st)) (FF : Env → Rs Out)
    (hb : ∀ (cdv : Value) (A : Around) (outer : List PySem.Env) (s : Shared) (H : Hp) (E : XK), Room k (A.deeper (PyProof.Rows.envOfC qual (defScope st) s.heap.objs.size f cdv)) →
      CxOk (cxOf (L2.CX P w) P w K mg base N qual (defScope st) f cdv A outer s H E) E →
      ∃ t, JPs ca (cxOf (L2.CX P w) P w K mg base N qual (defScope st) f cdv A outer s H E) E (defBody st) t FF) (hnp : ps.length ≤ N.length := by decide) :
    FnOk P w K mg base (L2.CX P w) (k + 1) f fd ps (spR ⟨K, ca⟩ (fnS ps.length N.length FF) ps.length) := by
  refine F.okX S (fun vs H Q E h => ?_) (fun cdv A outer s H vs Q E hr h => ?_)
  · obtain ⟨G, ss, r, e, _⟩ := h
    have := r.len
    rw [List.length_map] at this
    omega
  · obtain ⟨G, ss, r, el, no, hns, hok, her⟩ := h
    have o : CxOk (cxOf (L2.CX P w) P w K mg base N qual (defScope st) f cdv A outer s H E) E :=
      ⟨rfl, by have := hr.un; show (A.deeper _).units + 200 < cLine; omega, S.nd, passes_of rfl, passes_call (takes_of rfl rfl rfl rfl) fun _ _ _ _ z => z, takes_of rfl rfl rfl rfl⟩
    obtain ⟨t, hps, hsem⟩ := hb cdv A outer s H E hr o
    refine ⟨t, hps, ?_⟩
    have rep := start_slots (N := N) r el hnp
    have ent : Ent G H G H (ss ++ List.replicate (N.length - ps.length) Sl.no) (L2.start N vs) := ⟨Nx.refl r.gh, fun i s p h1 h2 h3 => by
      rcases List.mem_append.mp (List.mem_of_getElem? h1) with q | q
      · rw [no s q] at h2; cases h2
      · rw [(List.mem_replicate.mp q).2] at h2; cases h2⟩
    have key : ∀ r, FF (ss ++ List.replicate (N.length - ps.length) Sl.no) = r → fnS ps.length N.length FF ss = outV r := fun r z => by unfold fnS; rw [if_pos el, z]
    refine hsem G H G H _ _ rep ent (fun z => hns (by rw [key _ z]; rfl)) _ (fun ρ' z G' H' σ' r' n' => ?_) (fun s z G' H' v n q => ?_) fun y z => ?_
    · exact hok (.sh .none) (by rw [key _ z]; rfl) G' H' .non n'.nx .non
    · exact hok s (by rw [key _ z]; rfl) G' H' v n q
    · exact her y (by rw [key _ z]; rfl)
structure CalleeR (P : Program) (w : World) (K : PySem.W.Frag) (mg : Str → Option Value) (base : Heap) (ca : Nat → Addr) (x : Str) (k : Nat) (f : List Sl → Rs Sl) (np : Nat) : Prop where
  ex : ∃ (a : Addr) (fd : FuncData) (ps : List Str), FnOk P w K mg base (L2.CX P w) k a fd ps (spR ⟨K, ca⟩ f np) ∧ mg x = some (.ref a) ∧ PySem.W.keepIn K (.ref a) = true ∧ Binds K fd ps []
  len : ∀ ss, f ss ≠ .stuck → ss.length = np
theorem fnS_len {np n : Nat} {F : Env → Rs Out} (ss : List Sl) (h : fnS np n F ss ≠ .stuck) : ss.length = np := by
  unfold fnS at h
  split at h
  · assumption
  · exact absurd rfl h
theorem calleeR_of {P : Program} {w : World} {K : PySem.W.Frag} {mg : Str → Option Value} {base : Heap} {ca : Nat → Addr} {x qual y : Str} {st : Stmt} {f : Addr} {fd : FuncData} {ps : List Str} {k np n : Nat} {F : Env → Rs Out} (Fu : Fun K y qual st f fd) (h : FnOk P w K mg base (L2.CX P w) k f fd ps (spR ⟨K, ca⟩ (fnS np n F) np))
    (hm : mg x = some (.ref f)) (hb : Binds K fd ps []) : CalleeR P w K mg base ca x k (fnS np n F) np := ⟨⟨f, fd, ps, h, hm, Fu.kp, hb⟩, fun ss => fnS_len ss⟩
/-- a method of the class that looks -/
structure MetR (P : Program) (w : World) (K : PySem.W.Frag) (mg : Str → Option Value) (base : Heap) (ca : Nat → Addr) (m : Str) (k : Nat) (f : List Sl → Rs Sl) (np : Nat) : Prop where
  ex : ∃ (a : Addr) (fd : FuncData) (ps : List Str), Cls K (ca 6) ∧ Meth K (ca 6) m a ∧ FnOk P w K mg base (L2.CX P w) k a fd ps (spR ⟨K, ca⟩ f np) ∧ Binds K fd ps []
  len : ∀ ss, f ss ≠ .stuck → ss.length = np
/-! ### h.m() -/
def slHal : Option Sl → Rs Sl
  | some (.hal m ds) => .ok (.hal m ds)
  | _ => .stuck
theorem slHal_ok {o : Option Sl} (h : slHal o ≠ .stuck) : ∃ m ds, o = some (.hal m ds) := by
  unfold slHal at h
  split at h
  · exact ⟨_, _, rfl⟩
  · exact absurd rfl h
def fMet0 (i : Nat) (f : List Sl → Rs Sl) : Env → Rs Sl := fun ρ => slHal ρ[i]? >>= fun s => f [s]
section
variable {ca : Nat → Addr} {X : Cx} {E : XK}
theorem rep_hal {c : Pc} {G H : Hp} {ρ : Env} {σ : L2.St} (rep : Rep c G H ρ σ) {i : Nat} {m : Int} {ds : List PyData} (hs : ρ[i]? = some (.hal m ds)) : ∃ a dx p, σ[i]? = some (some (.ref a)) ∧ G a = none ∧ H a = some (halO (c.ca 6) dx m p) ∧ Dp c.K G (.ref p) (.list ds) := by
  obtain ⟨o, e1, a, dx, p, rfl, ga, ha, q⟩ := rep.sl i _ hs
  exact ⟨a, dx, p, e1, ga, ha, q⟩
theorem rep_slots {c : Pc} {G H : Hp} (gh : Ex G H) : Rep c G H [] [] := ⟨gh, rfl, fun i s h => by simp at h, fun i j s s' p h => by simp at h⟩
theorem rep_consN {c : Pc} {G H : Hp} {s : Sl} {o : Option V} {ss : List Sl} {os : List (Option V)} (h : SlOk c G H s o) (hn : s.own = false) (r : Rep c G H ss os) : Rep c G H (s :: ss) (o :: os) := by
  refine ⟨r.gh, by rw [List.length_cons, List.length_cons, r.len], fun i u e => ?_, fun i j u u' p e1 e2 w1 w2 f1 f2 => ?_⟩
  · cases i with
    | zero => cases e; exact ⟨o, rfl, h⟩
    | succ i => exact r.sl i u e
  · cases i with
    | zero => cases e1; rw [hn] at w1; cases w1
    | succ i => cases j with
      | zero => cases e2; rw [hn] at w2; cases w2
      | succ j => exact congrArg (· + 1) (r.inj i j u u' p e1 e2 w1 w2 f1 f2)
theorem jv_met0 (i : Nat) {x m : Str} {k np : Nat} {f : List Sl → Rs Sl} {p apos pos : Pos} {pl : Sem Bool} (M : MetR X.prog X.w X.K X.mg X.base ca m k f np) (hr : Room k X.A) (hx : Passes (L2.CX X.prog X.w) X E) (hv : PE X (.Name x p) (tVar i))
    (hm : ∀ a b : V, List.lookup m [(("many" : Str), a), (("standing" : Str), b)] = none := by intro _ _; rfl)
    (ht : eval (.Call (.Attribute (.Name x p) m apos) [] [] pos) X.env = (do
      let ov ← eval (.Name x p) X.env
      standAt apos.atName
      let (f, first) ← holding [ov] (getMethod ov m pl)
      callWith pos f first (backTo pos (starEach [] X.env)) (backToKw pos (keywordEach [] X.env))) := by rfl) :
    JV ca X E (.Call (.Attribute (.Name x p) m apos) [] [] pos) (tMeth (ca 6) m (spR ⟨X.K, ca⟩ f np) [] E (tVar i) tNil) (fMet0 i f) := by
  obtain ⟨a, fd, ps, hc, hme, F, hb⟩ := M.ex
  refine ⟨pe_meth0 (pl := pl) hv hc hme F hr hb .nil hx ht, fun G H ρ σ rep hns Q ok er => ?_⟩
  unfold fMet0 at hns ok er
  cases hs : slHal ρ[i]? with
  | stuck => rw [hs] at hns; exact absurd rfl hns
  | err x => unfold slHal at hs; split at hs <;> cases hs
  | ok s =>
    obtain ⟨m, ds, h0⟩ := slHal_ok (o := ρ[i]?) (by rw [hs]; exact fun z => nomatch z)
    rw [h0] at hs
    cases hs
    have es : (slHal ρ[i]? >>= fun s => f [s]) = f [.hal m ds] := by rw [h0]; rfl
    rw [es] at hns ok er
    obtain ⟨a', dx, p', e1, ga, ha, q⟩ := rep_hal rep h0
    refine ⟨.ref a', e1, a', dx, _, rfl, ha, hm _ _, ?_⟩
    show spR ⟨X.K, ca⟩ f np [.ref a'] H Q E
    have hss : f [.hal m ds] ≠ .stuck := hns
    exact ⟨G, [.hal m ds], rep_consN ⟨a', dx, p', rfl, ga, ha, q⟩ rfl (rep_slots rep.gh), M.len _ hss, by simp [Sl.own], hss, fun s e G' H' v n r => ok s e G' H' v n r, er⟩
end
end PF

namespace PF
open PySem L2

/-! ### slots that stand beside those of the frame: halls, lists of our own in lists -/
inductive OutZ where
  | nx (S : Env)
  | rt (d : PyData) (S : Env)
structure Zp where
  G0 : Hp
  H0 : Hp
  gv : List V
  kept : List (Nat × V)
  side : List (Addr × HO)
  n : Nat
structure Zp.Ok (z : Zp) : Prop where
  nd : z.gv.Nodup
  rf : ∀ v ∈ z.gv, ∃ a, v = .ref a ∧ z.H0 a = none
  sd : ∀ p ∈ z.side, ∀ C dx fs, p.2 ≠ .ins C dx fs
def notHal : Sl → Bool
  | .hal _ _ => false
  | _ => true
abbrev up (z : Zp) (σ : L2.St) : L2.St := σ ++ z.gv.map some
structure RZ (c : Pc) (z : Zp) (S : Env) (G H : Hp) (σ : L2.St) : Prop where
  rep : Rep c G H S (up z σ)
  en : Ent z.G0 z.H0 G H S (up z σ)
  len : σ.length = z.n
  nh : (S.take z.n).all notHal = true
  kp : ∀ p ∈ z.kept, σ[p.1]? = some (some p.2)
  sd : ∀ p ∈ z.side, H p.1 = some p.2 ∧ ¬ HldA S (up z σ) p.1
section
variable {c : Pc} {z : Zp} {S : Env} {G H G' H' : Hp} {σ : L2.St}
theorem RZ.nx (R : RZ c z S G H σ) (n : Nx G H G' H') : RZ c z S G' H' σ :=
  ⟨R.rep.nx n, R.en.go n, R.len, R.nh, R.kp, fun p hp => ⟨n.h _ _ (R.sd p hp).1, (R.sd p hp).2⟩⟩
theorem RZ.slen (R : RZ c z S G H σ) : S.length = z.n + z.gv.length := by
  have := R.rep.len
  rw [List.length_append, List.length_map, R.len] at this
  exact this
theorem up_low {i : Nat} (h : i < σ.length) : (up z σ)[i]? = σ[i]? := List.getElem?_append_left h
theorem up_high (R : RZ c z S G H σ) (k : Nat) : (up z σ)[z.n + k]? = (z.gv[k]?).map some := by
  show (σ ++ z.gv.map some)[z.n + k]? = _
  rw [List.getElem?_append_right (by rw [R.len]; omega), R.len, List.getElem?_map]
  congr 2
  omega
theorem take_get {i : Nat} {s : Sl} (h : (S.take z.n)[i]? = some s) : i < z.n ∧ S[i]? = some s := by
  rw [List.getElem?_take] at h
  split at h
  · exact ⟨by assumption, h⟩
  · cases h
theorem RZ.low (R : RZ c z S G H σ) : Rep c G H (S.take z.n) σ := by
  have hl := R.slen
  refine ⟨R.rep.gh, by rw [List.length_take, R.len]; omega, fun i s e => ?_, fun i j s s' p e1 e2 w1 w2 f1 f2 => ?_⟩
  · obtain ⟨h1, h2⟩ := take_get e
    obtain ⟨o, e1, q⟩ := R.rep.sl i s h2
    rw [up_low (by rw [R.len]; exact h1)] at e1
    exact ⟨o, e1, q⟩
  · obtain ⟨h1, h2⟩ := take_get e1
    obtain ⟨h3, h4⟩ := take_get e2
    exact R.rep.inj i j s s' p h2 h4 w1 w2 (by rw [up_low (by rw [R.len]; exact h1)]; exact f1) (by rw [up_low (by rw [R.len]; exact h3)]; exact f2)
theorem RZ.lowEn (R : RZ c z S G H σ) : Ent z.G0 z.H0 G H (S.take z.n) σ := ⟨R.en.nx, fun i s p e1 w f => by
  obtain ⟨h1, h2⟩ := take_get e1
  exact R.en.own i s p h2 w (by rw [up_low (by rw [R.len]; exact h1)]; exact f)⟩
/-- a variable that holds a hall, seen -/
def vw (o : Option (Nat × Nat)) (n : Nat) (S : Env) : Rs Env := match o with
  | none => .ok (S.take n)
  | some (i, k) => match S[n + k]? with
    | some (.hal m ds) => .ok ((S.take n).set i (.hal m ds))
    | _ => .stuck
def VwOk (z : Zp) : Option (Nat × Nat) → Prop
  | none => True
  | some (i, k) => ∃ v, (i, v) ∈ z.kept ∧ z.gv[k]? = some v
theorem set_same {i : Nat} {o : Option V} (h : σ[i]? = some o) : σ.set i o = σ := by
  apply List.ext_getElem?
  intro j
  rw [List.getElem?_set]
  by_cases hij : i = j
  · subst hij
    rw [if_pos rfl, if_pos (List.getElem?_eq_some_iff.mp h).1, h]
  · rw [if_neg hij]
theorem vw_own {o : Option (Nat × Nat)} {n : Nat} {ρ : Env} (e : vw o n S = .ok ρ) {i : Nat} {s : Sl} (h : ρ[i]? = some s) (w : s.own = true) : (S.take n)[i]? = some s := by
  unfold vw at e
  split at e
  · cases e; exact h
  · split at e
    · cases e
      rw [List.getElem?_set] at h
      split at h
      · split at h
        · cases h; cases w
        · cases h
      · exact h
    · cases e
theorem RZ.view (R : RZ c z S G H σ) {o : Option (Nat × Nat)} (ok : VwOk z o) {ρ : Env} (e : vw o z.n S = .ok ρ) : Rep c G H ρ σ := by
  unfold vw at e
  split at e
  · cases e; exact R.low
  · rename_i i k
    split at e
    · rename_i m ds hk
      cases e
      obtain ⟨v, h1, h2⟩ := ok
      have hσ := R.kp _ h1
      have := R.low.set (i := i) (s := .hal m ds) (o := some v) rfl (by
        obtain ⟨o, e1, q⟩ := R.rep.sl _ _ hk
        rw [up_high R, h2] at e1
        cases e1
        exact q)
      rwa [set_same hσ] at this
    · cases e
theorem RZ.viewEn (R : RZ c z S G H σ) {o : Option (Nat × Nat)} {ρ : Env} (e : vw o z.n S = .ok ρ) : Ent z.G0 z.H0 G H ρ σ := ⟨R.lowEn.nx, fun i s p e1 w f => R.lowEn.own i s p (vw_own e e1 w) w f⟩
/-- the addresses of the slots beside are not held by the frame's -/
theorem RZ.beside (R : RZ c z S G H σ) {o : Option (Nat × Nat)} {ρ : Env} (e : vw o z.n S = .ok ρ) {k : Nat} {s : Sl} {a : Addr} (hk : S[z.n + k]? = some s) (hs : s.own = true ∨ notHal s = false) (ha : (up z σ)[z.n + k]? = some (some (.ref a))) : ¬ HldA ρ σ a := fun ⟨j, u, h1, h2, h3⟩ => by
  have hj := vw_own e h1 h2
  obtain ⟨l1, l2⟩ := take_get hj
  have f : (up z σ)[j]? = some (some (.ref a)) := by rw [up_low (by rw [R.len]; exact l1)]; exact h3
  rcases hs with hs | hs
  · have := R.rep.inj j (z.n + k) u s a l2 hk h2 hs f ha
    omega
  · cases s with
    | hal m ds =>
      obtain ⟨o, e1, b, dx, p, z1, z2, z3, _⟩ := R.rep.sl _ _ hk
      rw [ha] at e1
      cases e1
      cases z1
      exact R.rep.nhal l2 h2 f _ _ _ z3
    | no => cases hs
    | sh d => cases hs
    | ol d => cases hs
    | od d => cases hs
    | exn d => cases hs
def bk (o : Option (Nat × Nat)) (ρ : Env) : Env := match o with
  | none => ρ
  | some (i, _) => ρ.set i .no
theorem rep_no {ρ : Env} (r : Rep c G H ρ σ) (i : Nat) : Rep c G H (ρ.set i .no) σ := by
  by_cases hi : i < σ.length
  · have := r.set (i := i) (s := .no) (o := σ[i]) rfl trivial
    rwa [set_same (List.getElem?_eq_getElem hi)] at this
  · rw [List.set_eq_of_length_le (by rw [r.len]; omega)]
    exact r
theorem ent_no' {G0 H0 : Hp} {ρ : Env} (e : Ent G0 H0 G H ρ σ) (i : Nat) : Ent G0 H0 G H (ρ.set i .no) σ := ⟨e.nx, fun j s p h w f => by
  rw [List.getElem?_set] at h
  split at h
  · split at h
    · cases h; cases w
    · cases h
  · exact e.own j s p h w f⟩
theorem bk_rep {o : Option (Nat × Nat)} {ρ : Env} (r : Rep c G H ρ σ) : Rep c G H (bk o ρ) σ := by
  unfold bk
  split
  · exact r
  · exact rep_no r _
theorem bk_ent {G0 H0 : Hp} {o : Option (Nat × Nat)} {ρ : Env} (r : Ent G0 H0 G H ρ σ) : Ent G0 H0 G H (bk o ρ) σ := by
  unfold bk
  split
  · exact r
  · exact ent_no' r _
/-- a step of the frame's own text -/
theorem RZ.step (zo : z.Ok) (R : RZ c z S G H σ) {o : Option (Nat × Nat)} {ρ ρ' : Env} {σ' : L2.St} (e : vw o z.n S = .ok ρ) (r' : Rep c G' H' ρ' σ') (n' : Ent G (notOwn H ρ σ) G' H' ρ' σ') (ag : ∀ p ∈ z.kept, agr p.1 σ σ') (hl : ρ'.length = z.n) (nh : (bk o ρ').all notHal = true) :
    RZ c z (bk o ρ' ++ S.drop z.n) G' H' σ' := by
  have hbl : (bk o ρ').length = z.n := by
    unfold bk
    split
    · exact hl
    · rw [List.length_set]; exact hl
  have hσ' : σ'.length = z.n := by rw [← r'.len]; exact hl
  have rb := bk_rep (o := o) r'
  have nb := bk_ent (o := o) n'
  have hn := R.slen
  have hup : ∀ k, (up z σ')[z.n + k]? = (up z σ)[z.n + k]? := fun k => by
    rw [up_high R]
    show (σ' ++ z.gv.map some)[z.n + k]? = _
    rw [List.getElem?_append_right (by omega), hσ', List.getElem?_map]
    congr 2
    omega
  have hS : ∀ (k : Nat) s, (bk o ρ' ++ S.drop z.n)[z.n + k]? = some s → S[z.n + k]? = some s := fun k s h => by
    rw [List.getElem?_append_right (by omega), hbl, List.getElem?_drop] at h
    rw [show z.n + k = z.n + (z.n + k - z.n) by omega]
    exact h
  have hlo : ∀ (i : Nat) s, i < z.n → (bk o ρ' ++ S.drop z.n)[i]? = some s → (bk o ρ')[i]? = some s := fun i s hi h => by
    rwa [List.getElem?_append_left (by omega)] at h
  have hsl : ∀ (k : Nat) s, S[z.n + k]? = some s → ∃ w, (up z σ)[z.n + k]? = some w ∧ SlOk c G (notOwn H ρ σ) s w := fun k s h => by
    obtain ⟨w, e1, q⟩ := R.rep.sl _ _ h
    refine ⟨w, e1, ?_⟩
    cases s with
    | no => trivial
    | sh d => exact q
    | exn x => exact q
    | ol ds =>
      obtain ⟨p, xs, rfl, q1, q2, q3⟩ := q
      exact ⟨p, xs, rfl, q1, by rw [notOwn_of (R.beside e h (.inl rfl) e1)]; exact q2, q3⟩
    | od ds =>
      obtain ⟨p, xs, rfl, q1, q2, q3⟩ := q
      exact ⟨p, xs, rfl, q1, by rw [notOwn_of (R.beside e h (.inl rfl) e1)]; exact q2, q3⟩
    | hal m ds =>
      obtain ⟨p, dx, xs, rfl, q1, q2, q3⟩ := q
      exact ⟨p, dx, xs, rfl, q1, by rw [notOwn_of (R.beside e h (.inr rfl) e1)]; exact q2, q3⟩
  have split : ∀ i : Nat, i < z.n ∨ ∃ k, i = z.n + k := fun i => by
    by_cases h : i < z.n
    · exact .inl h
    · exact .inr ⟨i - z.n, by omega⟩
  -- one of the frame's and one beside are two
  have apart : ∀ (i k : Nat) s s' p, i < z.n → (bk o ρ')[i]? = some s → s.own = true → σ'[i]? = some (some (.ref p)) → S[z.n + k]? = some s' → s'.own = true → (up z σ)[z.n + k]? = some (some (.ref p)) → False := fun i k s s' p _ h1 w1 f1 h2 w2 f2 => by
    have x := nb.own i s p h1 w1 f1
    rw [notOwn_of (R.beside e h2 (.inl w2) f2)] at x
    obtain ⟨w, e1, q⟩ := R.rep.sl _ _ h2
    rw [f2] at e1
    cases e1
    cases s' with
    | ol ds => obtain ⟨b, xs, z1, _, hb, _⟩ := q; cases z1; rw [x] at hb; cases hb
    | od ds => obtain ⟨b, xs, z1, _, hb, _⟩ := q; cases z1; rw [x] at hb; cases hb
    | no => cases w2
    | sh d => cases w2
    | exn d => cases w2
    | hal m d => cases w2
  refine ⟨⟨r'.gh, ?_, fun i s h => ?_, fun i j s s' p h1 h2 w1 w2 f1 f2 => ?_⟩, ⟨nx_join (R.viewEn e) n'.nx, fun i s p h w f => ?_⟩, hσ', ?_, fun p hp => ?_, fun p hp => ?_⟩
  · rw [List.length_append, List.length_append, List.length_map, List.length_drop]; omega
  · rcases split i with hi | ⟨k, rfl⟩
    · obtain ⟨w, e1, q⟩ := rb.sl i s (hlo i s hi h)
      exact ⟨w, by rw [up_low (by omega)]; exact e1, q⟩
    · obtain ⟨w, e1, q⟩ := hsl k s (hS k s h)
      exact ⟨w, by rw [hup]; exact e1, q.nx n'.nx⟩
  · rcases split i with hi | ⟨k, rfl⟩
    · rw [up_low (by omega)] at f1
      rcases split j with hj | ⟨l, rfl⟩
      · rw [up_low (by omega)] at f2
        exact rb.inj i j s s' p (hlo i s hi h1) (hlo j s' hj h2) w1 w2 f1 f2
      · rw [hup] at f2
        exact (apart i l s s' p hi (hlo i s hi h1) w1 f1 (hS l s' h2) w2 f2).elim
    · rw [hup] at f1
      rcases split j with hj | ⟨l, rfl⟩
      · rw [up_low (by omega)] at f2
        exact (apart j k s' s p hj (hlo j s' hj h2) w2 f2 (hS k s h1) w1 f1).elim
      · rw [hup] at f2
        exact R.rep.inj _ _ s s' p (hS k s h1) (hS l s' h2) w1 w2 f1 f2
  · rcases split i with hi | ⟨k, rfl⟩
    · rw [up_low (by omega)] at f
      exact (ent_below (R.viewEn e)).back (nb.own i s p (hlo i s hi h) w f)
    · rw [hup] at f
      exact R.en.own _ s p (hS k s h) w f
  · rw [List.take_append_of_le_length (by omega), List.take_of_length_le (by omega)]
    exact nh
  · have := ag p hp
    unfold agr at this
    rw [this]
    exact R.kp p hp
  · obtain ⟨q1, q2⟩ := R.sd p hp
    have nhd : ¬ HldA ρ σ p.1 := fun ⟨j, s, h1, h2, h3⟩ => by
      obtain ⟨l1, l2⟩ := take_get (vw_own e h1 h2)
      exact q2 ⟨j, s, l2, h2, by rw [up_low (by rw [R.len]; exact l1)]; exact h3⟩
    refine ⟨n'.nx.h _ _ (by rw [notOwn_of nhd]; exact q1), fun ⟨j, s, h1, h2, h3⟩ => ?_⟩
    rcases split j with hj | ⟨k, rfl⟩
    · rw [up_low (by omega)] at h3
      have x := nb.own j s p.1 (hlo j s hj h1) h2 h3
      rw [notOwn_of nhd, q1] at x
      cases x
    · rw [hup] at h3
      exact q2 ⟨_, s, hS k s h1, h2, h3⟩
end
end PF

namespace PF
open PySem L2

/-! ### texts over such slots -/
structure Zd where
  ks : List Nat
  vw : List (Nat × Nat)
  n : Nat
  ng : Nat
  lw : Option (Nat × Nat) := none
/-- what stands beside a law's frame: two halls in a tuple, two lists in a list -/
def LawSh (p : Nat × Nat) (z : Zp) : Prop := ∃ (T L : Addr) (v0 v1 v2 v3 : V), z.gv = [v0, v1, v2, v3] ∧ (p.1, V.ref T) ∈ z.kept ∧ (p.2, V.ref L) ∈ z.kept ∧ (T, HO.tup [v0, v1]) ∈ z.side ∧ (L, HO.lst [v2, v3]) ∈ z.side
structure Sh (d : Zd) (z : Zp) : Prop where
  n : z.n = d.n
  ks : z.kept.map (·.1) = d.ks
  vw : ∀ p ∈ d.vw, VwOk z (some p)
  ng : z.gv.length = d.ng
  lw : ∀ p, d.lw = some p → LawSh p z
def SemZ (c : Pc) (z : Zp) (t : TS) (F : Env → Rs OutZ) : Prop := ∀ (G H : Hp) (S : Env) (σ : L2.St), RZ c z S G H σ → F S ≠ .stuck → (∀ x, F S ≠ .err x) → ∀ D : Ends,
  (∀ S', F S = .ok (.nx S') → ∀ G' H' σ', RZ c z S' G' H' σ' → D.nx σ' H') → (∀ d S', F S = .ok (.rt d S') → ∀ G' H' σ' v, RZ c z S' G' H' σ' → Dp c.K G' v d → D.rt v H') → t D σ H
def SemVZ (c : Pc) (z : Zp) (t : TE) (F : Env → Rs (PyData × Env)) : Prop := ∀ (G H : Hp) (S : Env) (σ : L2.St), RZ c z S G H σ → F S ≠ .stuck → (∀ x, F S ≠ .err x) → ∀ Q : VK,
  (∀ d S', F S = .ok (d, S') → ∀ G' H' v, RZ c z S' G' H' σ → Dp c.K G' v d → Q v H') → t σ H Q
def SemTZ (c : Pc) (z : Zp) (t : TT) (F : Env → Rs (Bool × Env)) : Prop := ∀ (G H : Hp) (S : Env) (σ : L2.St), RZ c z S G H σ → F S ≠ .stuck → (∀ x, F S ≠ .err x) → ∀ Q : Bool → Hp → Prop,
  (∀ b S', F S = .ok (b, S') → ∀ G' H', RZ c z S' G' H' σ → Q b H') → t σ H Q
structure JZ (ca : Nat → Addr) (X : Cx) (d : Zd) (sts : List Stmt) (t : TS) (F : Env → Rs OutZ) : Prop where
  ps : PSs X sts t
  sem : ∀ z, z.Ok → Sh d z → SemZ ⟨X.K, ca⟩ z t F
structure JZ1 (ca : Nat → Addr) (X : Cx) (d : Zd) (st : Stmt) (t : TS) (F : Env → Rs OutZ) : Prop where
  ps : PS X st t
  sem : ∀ z, z.Ok → Sh d z → SemZ ⟨X.K, ca⟩ z t F
structure VZ (ca : Nat → Addr) (X : Cx) (d : Zd) (e : Expr) (t : TE) (F : Env → Rs (PyData × Env)) : Prop where
  pe : PE X e t
  sem : ∀ z, z.Ok → Sh d z → SemVZ ⟨X.K, ca⟩ z t F
structure TZ (ca : Nat → Addr) (X : Cx) (d : Zd) (e : Expr) (t : TT) (F : Env → Rs (Bool × Env)) : Prop where
  pt : PT X e t
  sem : ∀ z, z.Ok → Sh d z → SemTZ ⟨X.K, ca⟩ z t F
structure WZ (ca : Nat → Addr) (X : Cx) (d : Zd) (e : Expr) (t : TT) (F : Env → Rs (Bool × Env)) : Prop where
  pw : PW X e t
  sem : ∀ z, z.Ok → Sh d z → SemTZ ⟨X.K, ca⟩ z t F
def afterZ (r : Rs OutZ) (k : Env → Rs OutZ) : Rs OutZ := r >>= fun o => match o with
  | .nx S => k S
  | .rt d S => .ok (.rt d S)
def zSeq (F F' : Env → Rs OutZ) : Env → Rs OutZ := fun S => afterZ (F S) F'
def zNil : Env → Rs OutZ := fun S => .ok (.nx S)
def zLift (o : Option (Nat × Nat)) (n : Nat) (F : Env → Rs Out) : Env → Rs OutZ := fun S => vw o n S >>= fun ρ => F ρ >>= fun r => match r with
  | .nx ρ' => if (bk o ρ').all notHal = true ∧ ρ'.length = n then .ok (.nx (bk o ρ' ++ S.drop n)) else .stuck
  | .rt _ => .stuck
def zIf (F : Env → Rs (Bool × Env)) (A B : Env → Rs OutZ) : Env → Rs OutZ := fun S => F S >>= fun r => if r.1 = true then A r.2 else B r.2
def zRet (F : Env → Rs (PyData × Env)) : Env → Rs OutZ := fun S => F S >>= fun r => .ok (.rt r.1 r.2)
def zRd {α : Type} (o : Option (Nat × Nat)) (n : Nat) (F : Env → Rs α) : Env → Rs (α × Env) := fun S => vw o n S >>= fun ρ => F ρ >>= fun d => .ok (d, S)
def zB (F : Env → Rs (PyData × Env)) : Env → Rs (Bool × Env) := fun S => F S >>= fun r => boolOf r.1 >>= fun b => .ok (b, r.2)
def zNot (F : Env → Rs (Bool × Env)) : Env → Rs (Bool × Env) := fun S => F S >>= fun r => .ok (!r.1, r.2)
def zOr (F F' : Env → Rs (Bool × Env)) : Env → Rs (Bool × Env) := fun S => F S >>= fun r => if r.1 = true then .ok (true, r.2) else F' r.2
def zOp (f : PyData → PyData → Rs PyData) (F : Env → Rs (PyData × Env)) (o : Option (Nat × Nat)) (n : Nat) (F' : Env → Rs PyData) : Env → Rs (PyData × Env) := fun S => F S >>= fun r => vw o n r.2 >>= fun ρ => F' ρ >>= fun b => f r.1 b >>= fun d => .ok (d, r.2)
theorem rs_ns {α β : Type} {r : Rs α} {k : α → Rs β} (h : (r >>= k) ≠ .stuck) (e : ∀ x, (r >>= k) ≠ .err x) : ∃ a, r = .ok a := by
  cases r with
  | stuck => exact absurd rfl h
  | ok a => exact ⟨a, rfl⟩
  | err x => exact absurd rfl (e x)
theorem keeps_all {t : TS} : ∀ {ks : List Nat}, (∀ i ∈ ks, Keeps i t) → ∀ {D : Ends} {σ : L2.St} {H : Hp}, t { D with nx := fun σ' H' => (∀ i ∈ ks, agr i σ σ') → D.nx σ' H', ct := fun σ' H' => (∀ i ∈ ks, agr i σ σ') → D.ct σ' H' } σ H → t D σ H
  | [], _, D, σ, H, h => by
    have e : ({ D with nx := fun σ' H' => (∀ i ∈ ([] : List Nat), agr i σ σ') → D.nx σ' H', ct := fun σ' H' => (∀ i ∈ ([] : List Nat), agr i σ σ') → D.ct σ' H' } : Ends) = D := by
      have e1 : ∀ f : L2.St → Hp → Prop, (fun σ' H' => (∀ i ∈ ([] : List Nat), agr i σ σ') → f σ' H') = f := fun f => by
        funext σ' H'
        exact propext ⟨fun q => q (fun i h => nomatch h), fun q _ => q⟩
      rw [e1, e1]
    rw [e] at h
    exact h
  | i :: ks, hk, D, σ, H, h => by
    refine (hk i List.mem_cons_self).use (keeps_all (ks := ks) (fun j hj => hk j (List.mem_cons_of_mem _ hj)) ?_)
    have e1 : ∀ f : L2.St → Hp → Prop, (fun σ' H' => (∀ j ∈ ks, agr j σ σ') → agr i σ σ' → f σ' H') = fun σ' H' => (∀ j ∈ i :: ks, agr j σ σ') → f σ' H' := fun f => by
      funext σ' H'
      refine propext ⟨fun q a => q (fun j hj => a j (List.mem_cons_of_mem _ hj)) (a i List.mem_cons_self), fun q a b => q fun j hj => ?_⟩
      rcases List.mem_cons.mp hj with rfl | hj
      · exact b
      · exact a j hj
    show t { D with nx := fun σ' H' => (∀ j ∈ ks, agr j σ σ') → agr i σ σ' → D.nx σ' H', ct := fun σ' H' => (∀ j ∈ ks, agr j σ σ') → agr i σ σ' → D.ct σ' H' } σ H
    rw [e1, e1]
    exact h
theorem Sh.vwok {d : Zd} {z : Zp} (h : Sh d z) {o : Option (Nat × Nat)} (ho : ∀ p, o = some p → p ∈ d.vw) : VwOk z o := by
  cases o with
  | none => trivial
  | some p => exact h.vw p (ho p rfl)
section
variable {ca : Nat → Addr} {X : Cx} {E : XK} {d : Zd} {st : Stmt} {sts : List Stmt} {t u : TS} {F F' : Env → Rs OutZ}
theorem zj_nil : JZ ca X d [] tNext zNil := ⟨pss_nil, fun z zo sh G H S σ R hns her D nx rt => nx S rfl G H σ R⟩
theorem zj_cons (h : JZ1 ca X d st t F) (h' : JZ ca X d sts u F') : JZ ca X d (st :: sts) (tSeq t u) (zSeq F F') :=
  ⟨pss_cons h.ps h'.ps, fun z zo sh G H S σ R hns her D nx rt => by
    refine h.sem z zo sh G H S σ R (fun e => hns (by unfold zSeq; rw [e]; rfl)) (fun x e => her x (by unfold zSeq; rw [e]; rfl)) _ (fun S' e G' H' σ' R' => ?_) (fun d' S' e G' H' σ' v R' q => rt d' S' (by unfold zSeq; rw [e]; rfl) G' H' σ' v R' q)
    have e1 : zSeq F F' S = F' S' := by unfold zSeq; rw [e]; rfl
    rw [e1] at hns her nx rt
    exact h'.sem z zo sh G' H' S' σ' R' hns her D nx rt⟩
theorem zj_one (h : JZ1 ca X d st t F) : JZ ca X d [st] t F := ⟨pss_one h.ps, h.sem⟩
theorem zj_lift (o : Option (Nat × Nat)) {F : Env → Rs Out} (h : JP ca X E st t F) (hk : ∀ i ∈ d.ks, Keeps i t) (ho : ∀ p, o = some p → p ∈ d.vw) : JZ1 ca X d st t (zLift o d.n F) :=
  ⟨h.ps, fun z zo sh G H S σ R hns her D nx rt => by
    obtain ⟨ρ, e0⟩ := rs_ns hns her
    have e1 : zLift o d.n F S = (F ρ >>= fun r => match r with
      | .nx ρ' => if (bk o ρ').all notHal = true ∧ ρ'.length = d.n then .ok (.nx (bk o ρ' ++ S.drop d.n)) else .stuck
      | .rt _ => .stuck) := by unfold zLift; rw [e0]; rfl
    rw [e1] at hns her nx
    clear rt e1
    rw [← sh.n] at e0
    have rv := R.view (sh.vwok ho) e0
    refine keeps_all hk ?_
    refine h.sem G (notOwn H ρ σ) G H ρ σ rv (ent_here rv) (fun e => hns (by rw [e]; rfl)) _ (fun ρ' e G' H' σ' r' n' a => ?_) (fun s e => absurd (by rw [e]; rfl) hns) fun x e => absurd (by rw [e]; rfl) (her x)
    rw [e] at hns nx
    by_cases hc : (bk o ρ').all notHal = true ∧ ρ'.length = d.n
    · refine nx _ (if_pos hc) G' H' σ' ?_
      rw [← sh.n]
      exact R.step zo e0 r' n' (fun p hp => a p.1 (by rw [← sh.ks]; exact List.mem_map.mpr ⟨p, hp, rfl⟩)) (by rw [sh.n]; exact hc.2) hc.1
    · exact absurd (if_neg hc) hns⟩
theorem vz_s (o : Option (Nat × Nat)) {e : Expr} {te : TE} {F : Env → Rs PyData} (h : JS ca X E e te F) (ho : ∀ p, o = some p → p ∈ d.vw) : VZ ca X d e te (zRd o d.n F) :=
  ⟨h.pe, fun z zo sh G H S σ R hns her Q ok => by
    obtain ⟨ρ, e0⟩ := rs_ns hns her
    have e1 : zRd o d.n F S = (F ρ >>= fun a => .ok (a, S)) := by unfold zRd; rw [e0]; rfl
    rw [e1] at hns her ok
    rw [← sh.n] at e0
    exact h.sem G H ρ σ (R.view (sh.vwok ho) e0) (fun e => hns (by rw [e]; rfl)) Q (fun a e G' H' v n q => ok a S (by rw [e]; rfl) G' H' v (R.nx n) q) fun x e => absurd (by rw [e]; rfl) (her x)⟩
theorem tz_t (o : Option (Nat × Nat)) {e : Expr} {te : TT} {F : Env → Rs Bool} (h : JT ca X E e te F) (ho : ∀ p, o = some p → p ∈ d.vw) : TZ ca X d e te (zRd o d.n F) :=
  ⟨h.pt, fun z zo sh G H S σ R hns her Q ok => by
    obtain ⟨ρ, e0⟩ := rs_ns hns her
    have e1 : zRd o d.n F S = (F ρ >>= fun a => .ok (a, S)) := by unfold zRd; rw [e0]; rfl
    rw [e1] at hns her ok
    rw [← sh.n] at e0
    exact h.sem G H ρ σ (R.view (sh.vwok ho) e0) (fun e => hns (by rw [e]; rfl)) Q (fun a e G' H' v n q => by
      cases q
      exact ok a S (by rw [e]; rfl) G' H' (R.nx n)) fun x e => absurd (by rw [e]; rfl) (her x)⟩
theorem zj_ret {e : Expr} {te : TE} {F : Env → Rs (PyData × Env)} {pos : Pos} (h : VZ ca X d e te F) : JZ1 ca X d (.Return (some e) pos) (tRet te) (zRet F) :=
  ⟨ps_ret h.pe, fun z zo sh G H S σ R hns her D nx rt => h.sem z zo sh G H S σ R (fun e => hns (by unfold zRet; rw [e]; rfl)) (fun x e => her x (by unfold zRet; rw [e]; rfl)) D.rt fun a S' e G' H' v R' q => rt a S' (by unfold zRet; rw [e]; rfl) G' H' σ v R' q⟩
theorem zj_if {e : Expr} {tc : TT} {ta tb : TS} {Fc : Env → Rs (Bool × Env)} {A B : Env → Rs OutZ} {a b : List Stmt} {pos : Pos} (hc : TZ ca X d e tc Fc) (ha : JZ ca X d a ta A) (hb : JZ ca X d b tb B) : JZ1 ca X d (.If e a b pos) (tIfS tc ta tb) (zIf Fc A B) :=
  ⟨ps_if hc.pt ha.ps hb.ps, fun z zo sh G H S σ R hns her D nx rt => hc.sem z zo sh G H S σ R (fun e => hns (by unfold zIf; rw [e]; rfl)) (fun x e => her x (by unfold zIf; rw [e]; rfl)) _ fun k S' e G' H' R' => by
    have e1 : zIf Fc A B S = if k = true then A S' else B S' := by unfold zIf; rw [e]; rfl
    rw [e1] at hns her nx rt
    cases k with
    | true => exact ha.sem z zo sh G' H' S' σ R' hns her D nx rt
    | false => exact hb.sem z zo sh G' H' S' σ R' hns her D nx rt⟩
theorem tz_val {e : Expr} {te : TE} {F : Env → Rs (PyData × Env)} (h : VZ ca X d e te F) (he : ∀ whole, isTrue e X.env whole = (do let v ← whole; standAt e.pos; holding [v] (truthy v)) := by intro _; rfl) : TZ ca X d e (tB te) (zB F) :=
  ⟨pt_val h.pe he, fun z zo sh G H S σ R hns her Q ok => h.sem z zo sh G H S σ R (fun e => hns (by unfold zB; rw [e]; rfl)) (fun x e => her x (by unfold zB; rw [e]; rfl)) _ fun a S' e G' H' v R' q => by
    have e1 : zB F S = (boolOf a >>= fun b => .ok (b, S')) := by unfold zB; rw [e]; rfl
    rw [e1] at hns ok
    cases a with
    | bool b => exact ⟨b, Dp.bl_v q, ok b S' rfl G' H' R'⟩
    | none => exact absurd rfl hns
    | int i => exact absurd rfl hns
    | str i => exact absurd rfl hns
    | list i => exact absurd rfl hns
    | tuple i => exact absurd rfl hns
    | dict i => exact absurd rfl hns⟩
theorem tz_not {e : Expr} {te : TT} {F : Env → Rs (Bool × Env)} {pos : Pos} (h : TZ ca X d e te F) : TZ ca X d (.UnaryOp .Not e pos) (tNot te) (zNot F) :=
  ⟨pt_not h.pt, fun z zo sh G H S σ R hns her Q ok => h.sem z zo sh G H S σ R (fun e => hns (by unfold zNot; rw [e]; rfl)) (fun x e => her x (by unfold zNot; rw [e]; rfl)) _ fun b S' e G' H' R' => ok (!b) S' (by unfold zNot; rw [e]; rfl) G' H' R'⟩
theorem wz_or1 {e : Expr} {te : TT} {F : Env → Rs (Bool × Env)} {pos : Pos} (h : TZ ca X d e te F) : WZ ca X d (.BoolOp .Or [e] pos) te F := ⟨pw_or1 h.pt, h.sem⟩
theorem wz_or {a b : Expr} {rest : List Expr} {ta tb : TT} {F F' : Env → Rs (Bool × Env)} {pos : Pos} (h : TZ ca X d a ta F) (h' : WZ ca X d (.BoolOp .Or (b :: rest) pos) tb F') : WZ ca X d (.BoolOp .Or (a :: b :: rest) pos) (tOr ta tb) (zOr F F') :=
  ⟨pw_or h.pt h'.pw, fun z zo sh G H S σ R hns her Q ok => h.sem z zo sh G H S σ R (fun e => hns (by unfold zOr; rw [e]; rfl)) (fun x e => her x (by unfold zOr; rw [e]; rfl)) _ fun k S' e G' H' R' => by
    have e1 : zOr F F' S = if k = true then .ok (true, S') else F' S' := by unfold zOr; rw [e]; rfl
    rw [e1] at hns her ok
    cases k with
    | true => exact ok true S' rfl G' H' R'
    | false => exact h'.sem z zo sh G' H' S' σ R' hns her Q ok⟩
theorem tz_w {e : Expr} {te : TT} {F : Env → Rs (Bool × Env)} (h : WZ ca X d e te F) : TZ ca X d e te F := ⟨h.pw.pt, h.sem⟩
/-- a call's answer, beside a reading -/
theorem vz_op (o : Option (Nat × Nat)) {op : CmpOp} {r : R2} {f : PyData → PyData → Rs PyData} {a b : Expr} {ta tb : TE} {F : Env → Rs (PyData × Env)} {Fb : Env → Rs PyData} {pos : Pos} (hop : OpR X (compareOp op) r) (hs : OpSem ⟨X.K, ca⟩ r f (RS ⟨X.K, ca⟩)) (hm : behindInMarks op b = false) (ha : VZ ca X d a ta F) (hb : JB ca X E b tb Fb) (ho : ∀ p, o = some p → p ∈ d.vw) :
    TZ ca X d (.Compare a [op] [b] pos) (tTest (tOp r ta tb)) (zB (zOp f F o d.n Fb)) :=
  ⟨pt_cmpR hop ha.pe hb.pe hm, fun z zo sh G H S σ R hns her Q ok => ha.sem z zo sh G H S σ R (fun e => hns (by unfold zB zOp; rw [e]; rfl)) (fun x e => her x (by unfold zB zOp; rw [e]; rfl)) _ fun a1 S' e G' H' v R' q => by
    have e1 : zB (zOp f F o d.n Fb) S = ((vw o d.n S' >>= fun ρ => Fb ρ >>= fun b => f a1 b >>= fun d => .ok (d, S')) >>= fun r => boolOf r.1 >>= fun b => .ok (b, r.2)) := by unfold zB zOp; rw [e]; rfl
    rw [e1] at hns her ok
    clear e1
    obtain ⟨⟨y, S2⟩, e2⟩ := rs_ns hns her
    obtain ⟨ρ, e0⟩ := rs_ns (by rw [e2]; exact fun z => nomatch z) (by rw [e2]; exact fun x z => nomatch z)
    have e3 : (Fb ρ >>= fun b => f a1 b >>= fun d => .ok (d, S')) = .ok (y, S2) := by rw [e0] at e2; exact e2
    rw [e2] at hns ok
    rw [← sh.n] at e0
    refine hb.sem G' H' ρ σ (R'.view (sh.vwok ho) e0) (fun w => by rw [w] at e3; cases e3) _ (fun b1 eb G2 H2 w n2 q2 => ?_) fun x ex => by rw [ex] at e3; cases e3
    rw [eb] at e3
    cases hf : f a1 b1 with
    | stuck => rw [show ((Rs.ok b1 : Rs PyData) >>= fun b => f a1 b >>= fun d => .ok (d, S')) = (f a1 b1 >>= fun d => .ok (d, S')) from rfl, hf] at e3; cases e3
    | err x => rw [show ((Rs.ok b1 : Rs PyData) >>= fun b => f a1 b >>= fun d => .ok (d, S')) = (f a1 b1 >>= fun d => .ok (d, S')) from rfl, hf] at e3; cases e3
    | ok s =>
      rw [show ((Rs.ok b1 : Rs PyData) >>= fun b => f a1 b >>= fun d => .ok (d, S')) = (f a1 b1 >>= fun d => .ok (d, S')) from rfl, hf] at e3
      cases e3
      refine hs.go G2 H2 v w a1 b1 y n2.gh (db_nx n2 (.inl q)) q2 hf _ fun G3 H3 v3 n3 q3 => ?_
      cases y with
      | bool k => exact ⟨k, Dp.bl_v q3, ok k S' rfl G3 H3 ((R'.nx n2).nx n3)⟩
      | none => exact absurd rfl hns
      | int i => exact absurd rfl hns
      | str i => exact absurd rfl hns
      | list i => exact absurd rfl hns
      | tuple i => exact absurd rfl hns
      | dict i => exact absurd rfl hns⟩
end
end PF

namespace PF
open PySem L2

/-! ### calls that get slots -/
abbrev Ag := Nat ⊕ PyData
def spc (s : Sl) : Bool := s.own || !notHal s
def isIx (j : Nat) : Ag → Bool
  | .inl k => k == j
  | .inr _ => false
def posA (as : List Ag) (j : Nat) : Option Nat := as.findIdx? (isIx j)
def putA (S : Env) (as : List Ag) (ss' : List Sl) : Env := S.mapIdx fun j s => match posA as j with
  | some i => ss'.getD i s
  | none => s
def sofA (S : Env) : List Ag → Rs (List Sl)
  | [] => .ok []
  | .inl k :: as => match S[k]? with
    | some s => if spc s = true then sofA S as >>= fun ss => .ok (s :: ss) else .stuck
    | none => .stuck
  | .inr d :: as => sofA S as >>= fun ss => .ok (.sh d :: ss)
def ixs : List Ag → List Nat
  | [] => []
  | .inl k :: as => k :: ixs as
  | .inr _ :: as => ixs as
inductive ArgsR (c : Pc) (G : Hp) (os : L2.St) : List Ag → List V → Prop
  | nil : ArgsR c G os [] []
  | ix {k : Nat} {v : V} {as : List Ag} {vs : List V} : os[k]? = some (some v) → ArgsR c G os as vs → ArgsR c G os (.inl k :: as) (v :: vs)
  | dat {d : PyData} {v : V} {as : List Ag} {vs : List V} : Dp c.K G v d → ArgsR c G os as vs → ArgsR c G os (.inr d :: as) (v :: vs)
section
variable {c : Pc} {G G' : Hp} {os : L2.St} {S : Env} {ss : List Sl}
theorem ArgsR.ex (e : Ex G G') : ∀ {as : List Ag} {vs : List V}, ArgsR c G os as vs → ArgsR c G' os as vs
  | _, _, .nil => .nil
  | _, _, .ix h a => .ix h (ArgsR.ex e a)
  | _, _, .dat h a => .dat (Dp.ex e h) (ArgsR.ex e a)
theorem ArgsR.get : ∀ {as : List Ag} {vs : List V} {ss : List Sl}, ArgsR c G os as vs → sofA S as = .ok ss → ∀ i : Nat, (∀ s, ss[i]? = some s → ∃ v, vs[i]? = some v ∧ ((∃ k, as[i]? = some (.inl k) ∧ S[k]? = some s ∧ spc s = true ∧ os[k]? = some (some v)) ∨ ∃ d, as[i]? = some (.inr d) ∧ s = .sh d ∧ Dp c.K G v d))
  | _, _, ss, .nil, e, i, s, h => by cases e; simp at h
  | _, _, ss, .ix (k := k) (v := v) (as := as) hv a, e, i, s, h => by
    unfold sofA at e
    split at e
    · rename_i s0 hs0
      split at e
      · rename_i hsp
        cases e2 : sofA S as with
        | stuck => rw [e2] at e; cases e
        | err x => rw [e2] at e; cases e
        | ok ss2 =>
          rw [e2] at e
          cases e
          cases i with
          | zero => cases h; exact ⟨v, rfl, .inl ⟨k, rfl, hs0, hsp, hv⟩⟩
          | succ i => exact ArgsR.get a e2 i s h
      · cases e
    · cases e
  | _, _, ss, .dat (d := d) (v := v) (as := as) hd a, e, i, s, h => by
    unfold sofA at e
    cases e2 : sofA S as with
    | stuck => rw [e2] at e; cases e
    | err x => rw [e2] at e; cases e
    | ok ss2 =>
      rw [e2] at e
      cases e
      cases i with
      | zero => cases h; exact ⟨v, rfl, .inr ⟨d, rfl, rfl, hd⟩⟩
      | succ i => exact ArgsR.get a e2 i s h
theorem sofA_len : ∀ {as : List Ag} {ss : List Sl}, sofA S as = .ok ss → ss.length = as.length
  | [], ss, e => by cases e; rfl
  | .inl k :: as, ss, e => by
    unfold sofA at e
    split at e
    · split at e
      · cases e2 : sofA S as with
        | stuck => rw [e2] at e; cases e
        | err x => rw [e2] at e; cases e
        | ok ss2 =>
          rw [e2] at e
          cases e
          rw [List.length_cons, List.length_cons, sofA_len e2]
      · cases e
    · cases e
  | .inr d :: as, ss, e => by
    unfold sofA at e
    cases e2 : sofA S as with
    | stuck => rw [e2] at e; cases e
    | err x => rw [e2] at e; cases e
    | ok ss2 =>
      rw [e2] at e
      cases e
      rw [List.length_cons, List.length_cons, sofA_len e2]
theorem ArgsR.len : ∀ {as : List Ag} {vs : List V}, ArgsR c G os as vs → vs.length = as.length
  | _, _, .nil => rfl
  | _, _, .ix _ a => congrArg (· + 1) (ArgsR.len a)
  | _, _, .dat _ a => congrArg (· + 1) (ArgsR.len a)
theorem ixs_mem {k : Nat} : ∀ {as : List Ag} {i : Nat}, as[i]? = some (.inl k) → k ∈ ixs as
  | [], i, h => by simp at h
  | .inl l :: as, 0, h => by cases h; exact List.mem_cons_self
  | .inl l :: as, i + 1, h => List.mem_cons_of_mem _ (ixs_mem (as := as) (i := i) h)
  | .inr d :: as, 0, h => by cases h
  | .inr d :: as, i + 1, h => ixs_mem (as := as) (i := i) h
theorem ixs_inj {k : Nat} : ∀ {as : List Ag} {i j : Nat}, (ixs as).Nodup → as[i]? = some (.inl k) → as[j]? = some (.inl k) → i = j
  | [], i, j, _, h, _ => by simp at h
  | .inl l :: as, 0, 0, _, _, _ => rfl
  | .inl l :: as, 0, j + 1, nd, h1, h2 => by
    cases h1
    exact absurd (ixs_mem (as := as) (i := j) h2) (List.nodup_cons.mp nd).1
  | .inl l :: as, i + 1, 0, nd, h1, h2 => by
    cases h2
    exact absurd (ixs_mem (as := as) (i := i) h1) (List.nodup_cons.mp nd).1
  | .inl l :: as, i + 1, j + 1, nd, h1, h2 => congrArg (· + 1) (ixs_inj (as := as) (List.nodup_cons.mp nd).2 h1 h2)
  | .inr d :: as, 0, _, _, h1, _ => by cases h1
  | .inr d :: as, _ + 1, 0, _, _, h2 => by cases h2
  | .inr d :: as, i + 1, j + 1, nd, h1, h2 => congrArg (· + 1) (ixs_inj (as := as) nd h1 h2)
theorem isIx_iff {j : Nat} {a : Ag} : isIx j a = true ↔ a = .inl j := by
  cases a with
  | inl k =>
    constructor
    · intro h
      have : k = j := beq_iff_eq.mp h
      rw [this]
    · intro h
      cases h
      exact beq_self_eq_true _
  | inr d =>
    constructor
    · intro h; cases h
    · intro h; cases h
theorem putA_get {as : List Ag} {ss' : List Sl} (hl : ss'.length = as.length) {j : Nat} {u : Sl} (h : (putA S as ss')[j]? = some u) : (∃ (i : Nat) (s : Sl), as[i]? = some (.inl j) ∧ ss'[i]? = some u ∧ S[j]? = some s) ∨ (S[j]? = some u ∧ ∀ i : Nat, as[i]? ≠ some (.inl j)) := by
  unfold putA at h
  rw [List.getElem?_mapIdx] at h
  cases hs : S[j]? with
  | none => rw [hs] at h; cases h
  | some s =>
    rw [hs] at h
    cases hp : posA as j with
    | none =>
      have h : some (match posA as j with | some i => ss'.getD i s | none => s) = some u := h
      rw [hp] at h
      cases h
      refine .inr ⟨rfl, fun i e => ?_⟩
      have := List.findIdx?_eq_none_iff.mp hp _ (List.mem_of_getElem? e)
      rw [isIx_iff.mpr rfl] at this
      cases this
    | some i =>
      have h : some (match posA as j with | some i => ss'.getD i s | none => s) = some u := h
      rw [hp] at h
      obtain ⟨hi, h1, _⟩ := List.findIdx?_eq_some_iff_getElem.mp hp
      have h : ss'.getD i s = u := Option.some.inj h
      refine .inl ⟨i, s, by rw [List.getElem?_eq_getElem hi, isIx_iff.mp h1], ?_, rfl⟩
      rw [List.getD_eq_getElem?_getD, List.getElem?_eq_getElem (by omega)] at h
      rw [List.getElem?_eq_getElem (by omega)]
      exact congrArg some h
theorem putA_len {as : List Ag} {ss' : List Sl} : (putA S as ss').length = S.length := by
  unfold putA
  rw [List.length_mapIdx]
end
open Classical in
/-- the heap without what is handed on -/
noncomputable def cutS (H : Hp) (ss : Env) (vs : List V) : Hp := fun a => if ∃ (i : Nat) (s : Sl), ss[i]? = some s ∧ spc s = true ∧ vs[i]? = some (.ref a) then none else H a
theorem cutS_no {H : Hp} {ss : Env} {vs : List V} {a : Addr} (h : ¬ ∃ (i : Nat) (s : Sl), ss[i]? = some s ∧ spc s = true ∧ vs[i]? = some (.ref a)) : cutS H ss vs a = H a := if_neg h
theorem cutS_ex {H : Hp} {ss : Env} {vs : List V} : Ex (cutS H ss vs) H := fun a o h => by
  unfold cutS at h
  split at h
  · cases h
  · exact h
theorem cutS_yes {H : Hp} {ss : Env} {vs : List V} {a : Addr} {i : Nat} {s : Sl} (h1 : ss[i]? = some s) (h2 : spc s = true) (h3 : vs[i]? = some (.ref a)) : cutS H ss vs a = none := if_pos ⟨i, s, h1, h2, h3⟩
def SpU (ss : Env) (vs : List V) : Prop := ∀ (i j : Nat) s s' p, ss[i]? = some s → ss[j]? = some s' → spc s = true → spc s' = true → vs[i]? = some (.ref p) → vs[j]? = some (.ref p) → i = j
/-- the promise of a def that changes what it is handed -/
def spQ (c : Pc) (f : List Sl → Rs (PyData × List Sl)) (np : Nat) : Sp := fun vs H Q _ => ∃ G ss, Rep c G H ss (vs.map some) ∧ ss.length = np ∧ SpU ss vs ∧ f ss ≠ .stuck ∧ (∀ x, f ss ≠ .err x) ∧
  ∀ d ss', f ss = .ok (d, ss') → ∀ G' H' v, Nx G (cutS H ss vs) G' H' → Rep c G' H' ss' (vs.map some) → Dp c.K G' v d → Q v H'
section
variable {c : Pc} {z : Zp} {S : Env} {G H G' H' : Hp} {σ : L2.St}
theorem spc_cases {s : Sl} (h : spc s = true) : s.own = true ∨ ∃ m ds, s = .hal m ds := by
  cases s with
  | hal m ds => exact .inr ⟨m, ds, rfl⟩
  | no => cases h
  | sh d => cases h
  | exn x => cases h
  | ol d => exact .inl rfl
  | od d => exact .inl rfl
theorem spc_at {o : Option V} {s : Sl} (h : spc s = true) (q : SlOk c G H s o) : ∃ p u, o = some (.ref p) ∧ H p = some u ∧ G p = none ∧ (∀ xs, u ≠ .tup xs) := by
  rcases spc_cases h with h | ⟨m, ds, rfl⟩
  · cases s with
    | no => cases h
    | sh d => cases h
    | exn x => cases h
    | hal m d => cases h
    | ol ds => obtain ⟨p, xs, e, g, hp, _⟩ := q; exact ⟨p, _, e, hp, g, fun _ z => nomatch z⟩
    | od ds => obtain ⟨p, xs, e, g, hp, _⟩ := q; exact ⟨p, _, e, hp, g, fun _ z => nomatch z⟩
  · obtain ⟨p, dx, r, e, g, hp, _⟩ := q
    exact ⟨p, _, e, hp, g, fun _ z => nomatch z⟩
theorem RZ.hix (R : RZ c z S G H σ) {j : Nat} {m : Int} {ds : List PyData} (h : S[j]? = some (.hal m ds)) : ∃ k, j = z.n + k := by
  by_cases hj : j < z.n
  · have : (S.take z.n)[j]? = some (.hal m ds) := by rw [List.getElem?_take, if_pos hj]; exact h
    have := List.all_eq_true.mp R.nh _ (List.mem_of_getElem? this)
    cases this
  · exact ⟨j - z.n, by omega⟩
theorem RZ.uniq (zo : z.Ok) (R : RZ c z S G H σ) {j k : Nat} {s u : Sl} {p : Addr} (hj : S[j]? = some u) (hk : S[k]? = some s) (wj : spc u = true) (wk : spc s = true) (fj : (up z σ)[j]? = some (some (.ref p))) (fk : (up z σ)[k]? = some (some (.ref p))) : j = k := by
  rcases spc_cases wj with wj | ⟨m, ds, rfl⟩
  · rcases spc_cases wk with wk | ⟨m, ds, rfl⟩
    · exact R.rep.inj j k u s p hj hk wj wk fj fk
    · obtain ⟨o, e1, b, dx, r, z1, z2, z3, _⟩ := R.rep.sl _ _ hk
      rw [fk] at e1
      cases e1
      cases z1
      exact absurd z3 (R.rep.nhal hj wj fj _ _ _)
  · rcases spc_cases wk with wk | ⟨m', ds', rfl⟩
    · obtain ⟨o, e1, b, dx, r, z1, z2, z3, _⟩ := R.rep.sl _ _ hj
      rw [fj] at e1
      cases e1
      cases z1
      exact absurd z3 (R.rep.nhal hk wk fk _ _ _)
    · obtain ⟨j', rfl⟩ := R.hix hj
      obtain ⟨k', rfl⟩ := R.hix hk
      rw [up_high R] at fj fk
      cases ej : z.gv[j']? with
      | none => rw [ej] at fj; cases fj
      | some v =>
        cases ek : z.gv[k']? with
        | none => rw [ek] at fk; cases fk
        | some v' =>
          rw [ej] at fj
          rw [ek] at fk
          cases fj
          cases fk
          obtain ⟨h1, e1⟩ := List.getElem?_eq_some_iff.mp ej
          obtain ⟨h2, e2⟩ := List.getElem?_eq_some_iff.mp ek
          rcases Nat.lt_trichotomy j' k' with h | h | h
          · exact absurd (e1.trans e2.symm) (List.pairwise_iff_getElem.mp zo.nd j' k' h1 h2 h)
          · omega
          · exact absurd (e2.trans e1.symm) (List.pairwise_iff_getElem.mp zo.nd k' j' h2 h1 h)
theorem RZ.h0 (zo : z.Ok) (R : RZ c z S G H σ) {k : Nat} {s : Sl} {p : Addr} (hk : S[k]? = some s) (wk : spc s = true) (fk : (up z σ)[k]? = some (some (.ref p))) : z.H0 p = none := by
  rcases spc_cases wk with wk | ⟨m, ds, rfl⟩
  · exact R.en.own k s p hk wk fk
  · obtain ⟨k', rfl⟩ := R.hix hk
    rw [up_high R] at fk
    cases ek : z.gv[k']? with
    | none => rw [ek] at fk; cases fk
    | some v =>
      rw [ek] at fk
      cases fk
      obtain ⟨a, e, h⟩ := zo.rf _ (List.mem_of_getElem? ek)
      cases e
      exact h
/-- the slots handed on -/
theorem RZ.hand (zo : z.Ok) (R : RZ c z S G H σ) {as : List Ag} {vs : List V} {ss : List Sl} (a : ArgsR c G (up z σ) as vs) (e : sofA S as = .ok ss) (nd : (ixs as).Nodup) : Rep c G H ss (vs.map some) ∧ SpU ss vs := by
  have g := a.get e
  have su : SpU ss vs := fun i j s s' p h1 h2 w1 w2 f1 f2 => by
    obtain ⟨v, v1, q1⟩ := g i s h1
    obtain ⟨v', v2, q2⟩ := g j s' h2
    rw [f1] at v1
    rw [f2] at v2
    cases v1
    cases v2
    rcases q1 with ⟨k, a1, a2, _, a4⟩ | ⟨d, _, rfl, _⟩
    · rcases q2 with ⟨l, b1, b2, _, b4⟩ | ⟨d, _, rfl, _⟩
      · have := R.uniq zo a2 b2 w1 w2 a4 b4
        subst this
        exact ixs_inj nd a1 b1
      · cases w2
    · cases w1
  refine ⟨⟨R.rep.gh, by rw [List.length_map, sofA_len e, a.len], fun i s h => ?_, fun i j s s' p h1 h2 w1 w2 f1 f2 => ?_⟩, su⟩
  · obtain ⟨v, v1, q⟩ := g i s h
    refine ⟨some v, by rw [List.getElem?_map, v1]; rfl, ?_⟩
    rcases q with ⟨k, _, a2, _, a4⟩ | ⟨d, _, rfl, hd⟩
    · obtain ⟨o, e1, q⟩ := R.rep.sl _ _ a2
      rw [a4] at e1
      cases e1
      exact q
    · exact ⟨v, rfl, hd⟩
  · rw [List.getElem?_map] at f1 f2
    refine su i j s s' p h1 h2 (by unfold spc; rw [w1]; rfl) (by unfold spc; rw [w2]; rfl) ?_ ?_
    · cases h : vs[i]? with
      | none => rw [h] at f1; cases f1
      | some v => rw [h] at f1; cases f1; rfl
    · cases h : vs[j]? with
      | none => rw [h] at f2; cases f2
      | some v => rw [h] at f2; cases f2; rfl
/-- and taken back -/
theorem RZ.back (zo : z.Ok) (R : RZ c z S G H σ) {as : List Ag} {vs : List V} {ss ss' : List Sl} (a : ArgsR c G (up z σ) as vs) (e : sofA S as = .ok ss) (n : Nx G (cutS H ss vs) G' H') (r : Rep c G' H' ss' (vs.map some)) (nh : ((putA S as ss').take z.n).all notHal = true) : RZ c z (putA S as ss') G' H' σ := by
  have g := a.get e
  have hl : ss'.length = as.length := by rw [r.len, List.length_map, a.len]
  have gi : ∀ (i j : Nat) s0, as[i]? = some (.inl j) → S[j]? = some s0 → ss[i]? = some s0 ∧ spc s0 = true ∧ ∃ v, vs[i]? = some v ∧ (up z σ)[j]? = some (some v) := fun i j s0 h1 h2 => by
    have hi : i < ss.length := by rw [sofA_len e]; exact (List.getElem?_eq_some_iff.mp h1).1
    obtain ⟨v, v1, q⟩ := g i _ (List.getElem?_eq_getElem hi)
    rcases q with ⟨k, a1, a2, a3, a4⟩ | ⟨d, a1, _⟩
    · rw [h1] at a1
      cases a1
      rw [h2] at a2
      cases a2
      exact ⟨List.getElem?_eq_getElem hi, a3, v, v1, a4⟩
    · rw [h1] at a1
      cases a1
  have cutq : ∀ (p : Addr), (∃ (i : Nat) (s : Sl), ss[i]? = some s ∧ spc s = true ∧ vs[i]? = some (.ref p)) → ∃ (i k : Nat) (s : Sl), as[i]? = some (.inl k) ∧ S[k]? = some s ∧ spc s = true ∧ (up z σ)[k]? = some (some (.ref p)) := fun p ⟨i, s, h1, h2, h3⟩ => by
    obtain ⟨v, v1, q⟩ := g i s h1
    rw [h3] at v1
    cases v1
    rcases q with ⟨k, a1, a2, _, a4⟩ | ⟨d, _, rfl, _⟩
    · exact ⟨i, k, s, a1, a2, h2, a4⟩
    · cases h2
  have uncut : ∀ (j : Nat) u p, S[j]? = some u → spc u = true → (up z σ)[j]? = some (some (.ref p)) → (∀ i : Nat, as[i]? ≠ some (.inl j)) → cutS H ss vs p = H p := fun j u p h1 h2 h3 h4 => cutS_no fun w => by
    obtain ⟨i, k, s, b1, b2, b3, b4⟩ := cutq p w
    have := R.uniq zo h1 b2 h2 b3 h3 b4
    subst this
    exact h4 i b1
  have hb0 : Ex z.H0 (cutS H ss vs) := fun b o hb => by
    rw [cutS_no fun w => by
      obtain ⟨i, k, s, _, b2, b3, b4⟩ := cutq b w
      rw [R.h0 zo b2 b3 b4] at hb
      cases hb]
    exact R.en.nx.h b o hb
  refine ⟨⟨r.gh, by rw [putA_len, R.rep.len], fun j u h => ?_, fun i j s s' p h1 h2 w1 w2 f1 f2 => ?_⟩, ⟨⟨R.en.nx.g.trans n.g, hb0.trans n.h, n.gh, fun b hb gb => ?_⟩, fun j u p h w f => ?_⟩, R.len, nh, R.kp, fun p hp => ?_⟩
  · rcases putA_get hl h with ⟨i, s, a1, a2, a3⟩ | ⟨a1, a2⟩
    · obtain ⟨_, _, v, v1, v2⟩ := gi i j s a1 a3
      obtain ⟨o, e1, q⟩ := r.sl i u a2
      rw [List.getElem?_map, v1] at e1
      cases e1
      exact ⟨_, v2, q⟩
    · obtain ⟨o, e1, q⟩ := R.rep.sl j u a1
      refine ⟨o, e1, ?_⟩
      cases hsp : spc u with
      | false =>
        cases u with
        | no => trivial
        | sh d => obtain ⟨v, e, q⟩ := q; exact ⟨v, e, Dp.ex n.g q⟩
        | exn x => obtain ⟨v, e, q⟩ := q; exact ⟨v, e, q.ex n.g⟩
        | ol d => cases hsp
        | od d => cases hsp
        | hal m d => cases hsp
      | true =>
        obtain ⟨p, _, rfl, _⟩ := spc_at hsp q
        have hc := uncut j u p a1 hsp e1 a2
        have q' : SlOk c G (cutS H ss vs) u (some (.ref p)) := by
          cases u with
          | no => trivial
          | sh d => exact q
          | exn x => exact q
          | ol d => obtain ⟨b, xs, z1, z2, z3, z4⟩ := q; cases z1; exact ⟨_, xs, rfl, z2, by rw [hc]; exact z3, z4⟩
          | od d => obtain ⟨b, xs, z1, z2, z3, z4⟩ := q; cases z1; exact ⟨_, xs, rfl, z2, by rw [hc]; exact z3, z4⟩
          | hal m d => obtain ⟨b, dx, xs, z1, z2, z3, z4⟩ := q; cases z1; exact ⟨_, dx, xs, rfl, z2, by rw [hc]; exact z3, z4⟩
        exact q'.nx n
  · rcases putA_get hl h1 with ⟨k, s0, a1, a2, a3⟩ | ⟨a1, a2⟩
    · obtain ⟨x1, x2, v, v1, v2⟩ := gi k i s0 a1 a3
      rw [f1] at v2
      cases v2
      rcases putA_get hl h2 with ⟨l, s1, b1, b2, b3⟩ | ⟨b1, b2⟩
      · obtain ⟨y1, y2, w, w1', w2'⟩ := gi l j s1 b1 b3
        rw [f2] at w2'
        cases w2'
        have := r.inj k l s s' p a2 b2 w1 w2 (by rw [List.getElem?_map, v1]; rfl) (by rw [List.getElem?_map, w1']; rfl)
        subst this
        rw [a1] at b1
        cases b1
        rfl
      · have := R.uniq zo a3 b1 x2 (by unfold spc; rw [w2]; rfl) f1 f2
        subst this
        exact absurd a1 (b2 k)
    · rcases putA_get hl h2 with ⟨l, s1, b1, b2, b3⟩ | ⟨b1, b2⟩
      · obtain ⟨y1, y2, w, w1', w2'⟩ := gi l j s1 b1 b3
        have := R.uniq zo a1 b3 (by unfold spc; rw [w1]; rfl) y2 f1 f2
        subst this
        exact absurd b1 (a2 l)
      · exact R.rep.inj i j s s' p a1 b1 w1 w2 f1 f2
  · rcases R.en.nx.fr b hb gb with q | ⟨xs, q⟩
    · exact n.fr b (fun w => hb (hb0.back w)) q
    · exact .inr ⟨xs, n.g _ _ q⟩
  · rcases putA_get hl h with ⟨i, s, a1, a2, a3⟩ | ⟨a1, a2⟩
    · obtain ⟨_, x2, _⟩ := gi i j s a1 a3
      exact R.h0 zo a3 x2 f
    · exact R.en.own j u p a1 w f
  · obtain ⟨q1, q2⟩ := R.sd p hp
    have nhal : ∀ (k : Nat) s, S[k]? = some s → spc s = true → (up z σ)[k]? = some (some (.ref p.1)) → False := fun k s b2 b3 b4 => by
      rcases spc_cases b3 with w | ⟨m, ds, rfl⟩
      · exact q2 ⟨k, s, b2, w, b4⟩
      · obtain ⟨o, e1, b, dx, r, z1, z2, z3, _⟩ := R.rep.sl _ _ b2
        rw [b4] at e1
        cases e1
        cases z1
        rw [q1] at z3
        exact zo.sd p hp _ _ _ (Option.some.inj z3)
    refine ⟨n.h _ _ (by
      rw [cutS_no fun w => by
        obtain ⟨i, k, s, _, b2, b3, b4⟩ := cutq p.1 w
        exact nhal k s b2 b3 b4]
      exact q1), fun ⟨j, u, h1, h2, h3⟩ => ?_⟩
    rcases putA_get hl h1 with ⟨i, s, a1, a2, a3⟩ | ⟨a1, a2⟩
    · obtain ⟨_, x2, _⟩ := gi i j s a1 a3
      exact nhal j s a3 x2 h3
    · exact q2 ⟨j, u, a1, h2, h3⟩
end
end PF

namespace PF
open PySem L2

/-! ### arguments that are slots -/
def SemAZ (c : Pc) (z : Zp) (t : TA) (F : Env → Rs (List Ag)) : Prop := ∀ (G H : Hp) (S : Env) (σ : L2.St), RZ c z S G H σ → F S ≠ .stuck → (∀ x, F S ≠ .err x) → ∀ Q : List V → Hp → Prop,
  (∀ as, F S = .ok as → ∀ G' H' vs, Nx G H G' H' → RZ c z S G' H' σ → ArgsR c G' (up z σ) as vs → Q vs H') → t σ H Q
structure AZ (ca : Nat → Addr) (X : Cx) (d : Zd) (es : List Expr) (t : TA) (F : Env → Rs (List Ag)) : Prop where
  pa : PA X es t
  sem : ∀ z, z.Ok → Sh d z → SemAZ ⟨X.K, ca⟩ z t F
/-- what an argument is -/
def SemGZ (c : Pc) (z : Zp) (t : TE) (F : Env → Rs Ag) : Prop := ∀ (G H : Hp) (S : Env) (σ : L2.St), RZ c z S G H σ → F S ≠ .stuck → (∀ x, F S ≠ .err x) → ∀ Q : VK,
  (∀ a, F S = .ok a → ∀ G' H' v, Nx G H G' H' → ArgsR c G' (up z σ) [a] [v] → Q v H') → t σ H Q
structure GZ (ca : Nat → Addr) (X : Cx) (d : Zd) (e : Expr) (t : TE) (F : Env → Rs Ag) : Prop where
  pe : PE X e t
  sem : ∀ z, z.Ok → Sh d z → SemGZ ⟨X.K, ca⟩ z t F
def zANil : Env → Rs (List Ag) := fun _ => .ok []
def zACons (F : Env → Rs Ag) (F' : Env → Rs (List Ag)) : Env → Rs (List Ag) := fun S => F S >>= fun a => F' S >>= fun as => .ok (a :: as)
def zVar (k : Nat) : Env → Rs Ag := fun _ => .ok (.inl k)
def zOwn (i : Nat) : Env → Rs Ag := fun S => match S[i]? with
  | some (.ol _) => .ok (.inl i)
  | _ => .stuck
def zDat (o : Option (Nat × Nat)) (n : Nat) (F : Env → Rs PyData) : Env → Rs Ag := fun S => vw o n S >>= fun ρ => F ρ >>= fun d => .ok (.inr d)
section
variable {ca : Nat → Addr} {X : Cx} {E : XK} {d : Zd}
theorem az_nil : AZ ca X d [] tNil zANil := ⟨pa_nil, fun z zo sh G H S σ R hns her Q ok => ok [] rfl G H [] (Nx.refl R.rep.gh) R .nil⟩
theorem az_cons {e : Expr} {es : List Expr} {te : TE} {t : TA} {F : Env → Rs Ag} {F' : Env → Rs (List Ag)} (h : GZ ca X d e te F) (h' : AZ ca X d es t F') (he : starEach (e :: es) X.env = (false, eval e X.env) :: starEach es X.env := by rfl) : AZ ca X d (e :: es) (tCons te t) (zACons F F') :=
  ⟨pa_cons h.pe h'.pa he, fun z zo sh G H S σ R hns her Q ok => h.sem z zo sh G H S σ R (fun e => hns (by unfold zACons; rw [e]; rfl)) (fun x e => her x (by unfold zACons; rw [e]; rfl)) _ fun a e G1 H1 v n1 q1 => by
    have e1 : zACons F F' S = (F' S >>= fun as => .ok (a :: as)) := by unfold zACons; rw [e]; rfl
    rw [e1] at hns her ok
    have R1 := R.nx n1
    refine h'.sem z zo sh G1 H1 S σ R1 (fun w => hns (by rw [w]; rfl)) (fun x w => her x (by rw [w]; rfl)) _ fun as e2 G2 H2 vs n2 R2 q2 => ?_
    refine ok (a :: as) (by rw [e2]; rfl) G2 H2 (v :: vs) (n1.trans n2) R2 ?_
    cases q1 with
    | ix h _ => exact .ix h q2
    | dat h _ => exact .dat (Dp.ex n2.g h) q2⟩
/-- a variable that keeps what stands beside -/
theorem gz_kept (i k : Nat) {x : Str} {p : Pos} (h : PE X (.Name x p) (tVar i)) (hm : (i, k) ∈ d.vw)  : GZ ca X d (.Name x p) (tVar i) (zVar (d.n + k)) :=
  ⟨h, fun z zo sh G H S σ R hns her Q ok => by
    obtain ⟨v, h1, h2⟩ := sh.vw _ hm
    have := R.kp _ h1
    refine ⟨v, this, ok _ rfl G H v (Nx.refl R.rep.gh) (.ix ?_ .nil)⟩
    rw [← sh.n, up_high R, h2]
    rfl⟩
theorem gz_own (i : Nat) {x : Str} {p : Pos} (h : PE X (.Name x p) (tVar i)) (hi : i < d.n) : GZ ca X d (.Name x p) (tVar i) (zOwn i) :=
  ⟨h, fun z zo sh G H S σ R hns her Q ok => by
    unfold zOwn at hns ok
    cases hs : S[i]? with
    | none => rw [hs] at hns; exact absurd rfl hns
    | some s =>
      cases s with
      | ol ds =>
        obtain ⟨o, e1, q, xs, rfl, _⟩ := R.rep.sl i _ hs
        have e2 := e1
        rw [up_low (by rw [R.len, sh.n]; exact hi)] at e2
        exact ⟨_, e2, ok (.inl i) (by rw [hs]) G H _ (Nx.refl R.rep.gh) (.ix e1 .nil)⟩
      | no => rw [hs] at hns; exact absurd rfl hns
      | sh d => rw [hs] at hns; exact absurd rfl hns
      | od d => rw [hs] at hns; exact absurd rfl hns
      | exn d => rw [hs] at hns; exact absurd rfl hns
      | hal m d => rw [hs] at hns; exact absurd rfl hns⟩
theorem gz_js (o : Option (Nat × Nat)) {e : Expr} {te : TE} {F : Env → Rs PyData} (h : JS ca X E e te F) (ho : ∀ p, o = some p → p ∈ d.vw) : GZ ca X d e te (zDat o d.n F) :=
  ⟨h.pe, fun z zo sh G H S σ R hns her Q ok => by
    obtain ⟨ρ, e0⟩ := rs_ns hns her
    have e1 : zDat o d.n F S = (F ρ >>= fun a => .ok (.inr a)) := by unfold zDat; rw [e0]; rfl
    rw [e1] at hns her ok
    rw [← sh.n] at e0
    exact h.sem G H ρ σ (R.view (sh.vwok ho) e0) (fun e => hns (by rw [e]; rfl)) Q (fun a e G' H' v n q => ok (.inr a) (by rw [e]; rfl) G' H' v n (.dat q .nil)) fun x e => absurd (by rw [e]; rfl) (her x)⟩
end
/-! ### calls that change what they are handed -/
structure CalleeQ (P : Program) (w : World) (K : PySem.W.Frag) (mg : Str → Option Value) (base : Heap) (ca : Nat → Addr) (x : Str) (k : Nat) (f : List Sl → Rs (PyData × List Sl)) (np : Nat) : Prop where
  ex : ∃ (a : Addr) (fd : FuncData) (ps : List Str), FnOk P w K mg base (L2.CX P w) k a fd ps (spQ ⟨K, ca⟩ f np) ∧ mg x = some (.ref a) ∧ PySem.W.keepIn K (.ref a) = true ∧ Binds K fd ps []
  len : ∀ ss, f ss ≠ .stuck → ss.length = np
def zCall (n : Nat) (f : List Sl → Rs (PyData × List Sl)) (Fa : Env → Rs (List Ag)) : Env → Rs (PyData × Env) := fun S => Fa S >>= fun as => sofA S as >>= fun ss => if (ixs as).Nodup then f ss >>= fun r => if ((putA S as r.2).take n).all notHal = true then .ok (r.1, putA S as r.2) else .stuck else .stuck
def shw : Sl → Sl
  | .ol ds => .sh (.list ds)
  | s => s
def slBool : Sl → Rs Bool
  | .sh (.bool b) => .ok b
  | _ => .stuck
def zCallR (f : List Sl → Rs Sl) (Fa : Env → Rs (List Ag)) : Env → Rs (Bool × Env) := fun S => Fa S >>= fun as => sofA S as >>= fun ss => if (ixs as).Nodup ∧ (ss.map shw).all (fun s => !s.own) = true then f (ss.map shw) >>= fun r => slBool r >>= fun b => .ok (b, S) else .stuck
section
variable {ca : Nat → Addr} {X : Cx} {E : XK} {d : Zd}
theorem vz_callQ {x : Str} {k np : Nat} {f : List Sl → Rs (PyData × List Sl)} {e : Expr} {es : List Expr} {t : TA} {Fa : Env → Rs (List Ag)} {p pos : Pos} (C : CalleeQ X.prog X.w X.K X.mg X.base ca x k f np) (hr : Room k X.A) (hx : Passes (L2.CX X.prog X.w) X E) (ha : AZ ca X d (e :: es) t Fa)
    (hg : Gl X x := by rfl) (hdb : (x == ("__debug__" : Str)) = false := by decide) (he : starEach (e :: es) X.env = (false, eval e X.env) :: starEach es X.env := by rfl) (hpl : (backTo pos (starEach es X.env)).any (·.1) = false := by rfl) :
    VZ ca X d (.Call (.Name x p) (e :: es) [] pos) (tCall (spQ ⟨X.K, ca⟩ f np) [] E t) (zCall d.n f Fa) := by
  obtain ⟨a, fd, ps, F, hm, hk, hb⟩ := C.ex
  refine ⟨pe_call F hr hg hm hk hb .nil hx ha.pa hdb he hpl, fun z zo sh G H S σ R hns her Q ok => ?_⟩
  refine ha.sem z zo sh G H S σ R (fun e => hns (by unfold zCall; rw [e]; rfl)) (fun x e => her x (by unfold zCall; rw [e]; rfl)) _ fun as e1 G1 H1 vs n1 R1 q1 => ?_
  have e2 : zCall d.n f Fa S = (sofA S as >>= fun ss => if (ixs as).Nodup then f ss >>= fun r => if ((putA S as r.2).take d.n).all notHal = true then .ok (r.1, putA S as r.2) else .stuck else .stuck) := by unfold zCall; rw [e1]; rfl
  rw [e2] at hns her ok
  obtain ⟨ss, e3⟩ := rs_ns hns her
  rw [e3] at hns her ok
  have hns : (if (ixs as).Nodup then f ss >>= fun r => if ((putA S as r.2).take d.n).all notHal = true then .ok (r.1, putA S as r.2) else .stuck else .stuck) ≠ .stuck := hns
  have her : ∀ x, (if (ixs as).Nodup then f ss >>= fun r => if ((putA S as r.2).take d.n).all notHal = true then .ok (r.1, putA S as r.2) else .stuck else .stuck) ≠ .err x := her
  by_cases nd : (ixs as).Nodup
  case neg => rw [if_neg nd] at hns; exact absurd rfl hns
  rw [if_pos nd] at hns her
  have ok : ∀ d' S', (if (ixs as).Nodup then f ss >>= fun r => if ((putA S as r.2).take d.n).all notHal = true then .ok (r.1, putA S as r.2) else .stuck else .stuck) = .ok (d', S') → ∀ G' H' v, RZ ⟨X.K, ca⟩ z S' G' H' σ → Dp X.K G' v d' → Q v H' := ok
  rw [if_pos nd] at ok
  obtain ⟨h1, h2⟩ := R1.hand zo q1 e3 nd
  show spQ ⟨X.K, ca⟩ f np (vs ++ []) H1 Q E
  rw [List.append_nil]
  have hf : f ss ≠ .stuck := fun z => hns (by rw [z]; rfl)
  refine ⟨G1, ss, h1, C.len ss hf, h2, hf, fun x z => her x (by rw [z]; rfl), fun d' ss' e4 G' H' v n' r' q' => ?_⟩
  rw [e4] at hns ok
  by_cases hc : ((putA S as ss').take d.n).all notHal = true
  · exact ok d' _ (if_pos hc) G' H' v (R1.back zo q1 e3 n' r' (by rw [sh.n]; exact hc)) q'
  · exact absurd (if_neg hc) hns
open Classical in
theorem tz_callR {x : Str} {k np : Nat} {f : List Sl → Rs Sl} {e : Expr} {es : List Expr} {t : TA} {Fa : Env → Rs (List Ag)} {p pos : Pos} (C : CalleeR X.prog X.w X.K X.mg X.base ca x k f np) (hr : Room k X.A) (hx : Passes (L2.CX X.prog X.w) X E) (ha : AZ ca X d (e :: es) t Fa)
    (hg : Gl X x := by rfl) (hdb : (x == ("__debug__" : Str)) = false := by decide) (he : starEach (e :: es) X.env = (false, eval e X.env) :: starEach es X.env := by rfl) (hpl : (backTo pos (starEach es X.env)).any (·.1) = false := by rfl)
    (hT : ∀ whole, isTrue (.Call (.Name x p) (e :: es) [] pos) X.env whole = (do let v ← whole; standAt (Expr.Call (.Name x p) (e :: es) [] pos).pos; holding [v] (truthy v)) := by intro _; rfl) :
    TZ ca X d (.Call (.Name x p) (e :: es) [] pos) (tB (tCall (spR ⟨X.K, ca⟩ f np) [] E t)) (zCallR f Fa) ∧ VZ ca X d (.Call (.Name x p) (e :: es) [] pos) (tCall (spR ⟨X.K, ca⟩ f np) [] E t) (fun S => zCallR f Fa S >>= fun r => .ok (.bool r.1, r.2)) := by
  obtain ⟨a, fd, ps, F, hm, hk, hb⟩ := C.ex
  have pe := pe_call (X := X) (p := p) F hr hg hm hk hb .nil hx ha.pa hdb he hpl
  have key : ∀ z, z.Ok → Sh d z → ∀ (G H : Hp) (S : Env) (σ : L2.St), RZ ⟨X.K, ca⟩ z S G H σ → zCallR f Fa S ≠ .stuck → (∀ x, zCallR f Fa S ≠ .err x) → ∀ Q : VK,
      (∀ b S', zCallR f Fa S = .ok (b, S') → ∀ G' H', RZ ⟨X.K, ca⟩ z S' G' H' σ → Q (.bl b) H') → (tCall (spR ⟨X.K, ca⟩ f np) [] E t) σ H Q := fun z zo sh G H S σ R hns her Q ok => by
    refine ha.sem z zo sh G H S σ R (fun e => hns (by unfold zCallR; rw [e]; rfl)) (fun x e => her x (by unfold zCallR; rw [e]; rfl)) _ fun as e1 G1 H1 vs n1 R1 q1 => ?_
    have e2 : zCallR f Fa S = (sofA S as >>= fun ss => if (ixs as).Nodup ∧ (ss.map shw).all (fun s => !s.own) = true then f (ss.map shw) >>= fun r => slBool r >>= fun b => .ok (b, S) else .stuck) := by unfold zCallR; rw [e1]; rfl
    rw [e2] at hns her ok
    obtain ⟨ss, e3⟩ := rs_ns hns her
    have e4 : (sofA S as >>= fun ss => if (ixs as).Nodup ∧ (ss.map shw).all (fun s => !s.own) = true then f (ss.map shw) >>= fun r => slBool r >>= fun b => .ok (b, S) else .stuck) = (if (ixs as).Nodup ∧ (ss.map shw).all (fun s => !s.own) = true then f (ss.map shw) >>= fun r => slBool r >>= fun b => .ok (b, S) else .stuck) := by rw [e3]; rfl
    rw [e4] at hns her ok
    clear e4 e2
    by_cases nd : (ixs as).Nodup ∧ (ss.map shw).all (fun s => !s.own) = true
    case neg => rw [if_neg nd] at hns; exact absurd rfl hns
    rw [if_pos nd] at hns her ok
    obtain ⟨h1, h2⟩ := R1.hand zo q1 e3 nd.1
    let G2 : Hp := fun b => if ∃ (i : Nat) (ds : List PyData), ss[i]? = some (.ol ds) ∧ vs[i]? = some (.ref b) then H1 b else G1 b
    have hget : ∀ (i : Nat) v, vs[i]? = some v → (vs.map some)[i]? = some (some v) := fun i v h => by rw [List.getElem?_map, h]; rfl
    have hvs : ∀ (i : Nat) s, ss[i]? = some s → ∃ v, vs[i]? = some v ∧ SlOk ⟨X.K, ca⟩ G1 H1 s (some v) := fun i s h => by
      obtain ⟨o, e, q⟩ := h1.sl i s h
      rw [List.getElem?_map] at e
      cases hv : vs[i]? with
      | none => rw [hv] at e; cases e
      | some v => rw [hv] at e; cases e; exact ⟨v, rfl, q⟩
    have x12 : Ex G1 G2 := fun b o hb => by
      show (if _ then _ else _) = _
      split
      · exact h1.gh b o hb
      · exact hb
    have x2H : Ex G2 H1 := fun b o hb => by
      have hb : (if _ then _ else _) = _ := hb
      split at hb
      · exact hb
      · exact h1.gh b o hb
    have r2 : Rep ⟨X.K, ca⟩ G2 H1 (ss.map shw) (vs.map some) := by
      refine ⟨x2H, by rw [List.length_map]; exact h1.len, fun i s h => ?_, fun i j s s' p h _ w => ?_⟩
      · rw [List.getElem?_map] at h
        cases hs : ss[i]? with
        | none => rw [hs] at h; cases h
        | some s0 =>
          rw [hs] at h
          cases h
          obtain ⟨v, hv, q⟩ := hvs i s0 hs
          refine ⟨some v, hget i v hv, ?_⟩
          have hno : (shw s0).own = false := by
            have := List.all_eq_true.mp nd.2 _ (List.mem_map.mpr ⟨s0, List.mem_of_getElem? hs, rfl⟩)
            simpa using this
          cases s0 with
          | no => trivial
          | sh d => obtain ⟨v, e, q⟩ := q; exact ⟨v, e, Dp.ex x12 q⟩
          | exn d => obtain ⟨v, e, q⟩ := q; exact ⟨v, e, q.ex x12⟩
          | od d => cases hno
          | ol ds =>
            obtain ⟨b, xs, e, g, hb, q⟩ := q
            cases e
            refine ⟨_, rfl, ?_⟩
            have e2 : G2 b = some (.lst xs) := (if_pos ⟨i, ds, hs, hv⟩).trans hb
            exact .lst (.inl (.inl e2)) (DpAll.ex x12 q)
          | hal m ds =>
            obtain ⟨b, dx, p, e, g, hb, q⟩ := q
            cases e
            refine ⟨b, dx, p, rfl, ?_, hb, Dp.ex x12 q⟩
            refine (if_neg fun ⟨j, es, f1, f2⟩ => ?_).trans g
            obtain ⟨v', hv', q'⟩ := hvs j _ f1
            rw [f2] at hv'
            cases hv'
            obtain ⟨b', xs, e', _, hb', _⟩ := q'
            cases e'
            rw [hb] at hb'
            cases hb'
      · rw [List.getElem?_map] at h
        cases hs : ss[i]? with
        | none => rw [hs] at h; cases h
        | some s0 =>
          rw [hs] at h
          cases h
          have := List.all_eq_true.mp nd.2 _ (List.mem_map.mpr ⟨s0, List.mem_of_getElem? hs, rfl⟩)
          rw [show (shw s0).own = true from w] at this
          cases this
    show spR ⟨X.K, ca⟩ f np (vs ++ []) H1 Q E
    rw [List.append_nil]
    have hf : f (ss.map shw) ≠ .stuck := fun z => hns (by rw [z]; rfl)
    refine ⟨G2, ss.map shw, r2, C.len _ hf, fun s hs => ?_, hf, fun s e5 G' H' v n' q' => ?_, fun y e5 => absurd (by rw [e5]; rfl) (her y)⟩
    · have := List.all_eq_true.mp nd.2 s hs
      simpa using this
    · rw [e5] at hns ok
      cases s with
      | sh dd =>
        cases dd with
        | bool b =>
          have hv : v = .bl b := Dp.bl_v q'
          rw [hv]
          exact ok b S rfl G1 H' (R1.nx ⟨Ex.refl _, n'.h, R1.rep.gh.trans n'.h, fun _ _ g => .inl g⟩)
        | none => exact absurd rfl hns
        | int i => exact absurd rfl hns
        | str i => exact absurd rfl hns
        | list i => exact absurd rfl hns
        | tuple i => exact absurd rfl hns
        | dict i => exact absurd rfl hns
      | no => exact absurd rfl hns
      | ol i => exact absurd rfl hns
      | od i => exact absurd rfl hns
      | exn i => exact absurd rfl hns
      | hal i j => exact absurd rfl hns
  refine ⟨⟨pt_val pe hT, fun z zo sh G H S σ R hns her Q ok => key z zo sh G H S σ R hns her _ fun b S' e G' H' R' => ⟨b, rfl, ok b S' e G' H' R'⟩⟩,
    ⟨pe, fun z zo sh G H S σ R hns her Q ok => key z zo sh G H S σ R (fun w => hns (by show (zCallR f Fa S >>= _) = _; rw [w]; rfl)) (fun x w => her x (by show (zCallR f Fa S >>= _) = _; rw [w]; rfl)) _ fun b S' e G' H' R' => ok (.bool b) S' (by show (zCallR f Fa S >>= _) = _; rw [e]; rfl) G' H' _ R' (.bl b)⟩⟩
end
end PF

namespace PF
open PySem L2

/-! ### a def that is handed a hall (and a list) to change -/
def isOl : Sl → Bool
  | .ol _ => true
  | _ => false
def isSh : Sl → Bool
  | .sh _ => true
  | _ => false
def shapeQ (np hi : Nat) (oj : Option Nat) (ss : List Sl) : Bool := ss.length == np && (List.range np).all fun i => match ss[i]? with
  | some s => if i = hi then !notHal s else if oj = some i then isOl s else isSh s
  | none => false
def initQ (n np hi : Nat) (ss : List Sl) : Env := (ss.set hi .no ++ List.replicate (n - np) Sl.no) ++ [ss.getD hi .no]
def outQ (n hi : Nat) (oj : Option Nat) (ss : List Sl) (S : Env) : List Sl := match oj with
  | none => ss.set hi (S.getD n .no)
  | some j => (ss.set hi (S.getD n .no)).set j (S.getD j .no)
def fnQ (np n hi : Nat) (oj : Option Nat) (F : Env → Rs OutZ) (ss : List Sl) : Rs (PyData × List Sl) := if shapeQ np hi oj ss = true ∧ hi < np then F (initQ n np hi ss) >>= fun o => match o with
  | .nx S => .ok (.none, outQ n hi oj ss S)
  | .rt d S => .ok (d, outQ n hi oj ss S) else .stuck
theorem rep_app1 {c : Pc} {G H : Hp} {ρ : Env} {σ : L2.St} {s : Sl} {o : Option V} (r : Rep c G H ρ σ) (h : SlOk c G H s o) (hn : s.own = false) : Rep c G H (ρ ++ [s]) (σ ++ [o]) := by
  have split : ∀ (i : Nat) u, (ρ ++ [s])[i]? = some u → (ρ[i]? = some u ∧ (σ ++ [o])[i]? = σ[i]?) ∨ (u = s ∧ (σ ++ [o])[i]? = some o) := fun i u h => by
    by_cases hi : i < ρ.length
    · rw [List.getElem?_append_left hi] at h
      exact .inl ⟨h, List.getElem?_append_left (by rw [← r.len]; exact hi)⟩
    · rw [List.getElem?_append_right (by omega)] at h
      have h0 : i - ρ.length = 0 := by
        have := (List.getElem?_eq_some_iff.mp h).1
        rw [List.length_singleton] at this
        omega
      rw [h0] at h
      cases h
      refine .inr ⟨rfl, ?_⟩
      rw [List.getElem?_append_right (by rw [← r.len]; omega), ← r.len, h0]
      rfl
  refine ⟨r.gh, by rw [List.length_append, List.length_append, r.len]; rfl, fun i u e => ?_, fun i j u u' p e1 e2 w1 w2 f1 f2 => ?_⟩
  · rcases split i u e with ⟨a, b⟩ | ⟨rfl, b⟩
    · obtain ⟨o', q1, q2⟩ := r.sl i u a
      exact ⟨o', b.trans q1, q2⟩
    · exact ⟨o, b, h⟩
  · rcases split i u e1 with ⟨a, b⟩ | ⟨rfl, b⟩
    · rcases split j u' e2 with ⟨a', b'⟩ | ⟨rfl, b'⟩
      · exact r.inj i j u u' p a a' w1 w2 (b.symm.trans f1) (b'.symm.trans f2)
      · rw [hn] at w2; cases w2
    · rw [hn] at w1; cases w1
theorem shapeQ_at {np hi : Nat} {oj : Option Nat} {ss : List Sl} (h : shapeQ np hi oj ss = true) : ss.length = np ∧ ∀ i s, ss[i]? = some s → (if i = hi then !notHal s else if oj = some i then isOl s else isSh s) = true := by
  unfold shapeQ at h
  obtain ⟨h1, h2⟩ := Bool.and_eq_true_iff.mp h
  have hl : ss.length = np := beq_iff_eq.mp h1
  refine ⟨hl, fun i s e => ?_⟩
  have := List.all_eq_true.mp h2 i (List.mem_range.mpr (by rw [← hl]; exact (List.getElem?_eq_some_iff.mp e).1))
  rw [e] at this
  exact this
theorem outQ_get {n hi : Nat} {oj : Option Nat} {ss : List Sl} {S : Env} {i : Nat} {u : Sl} (hj : oj ≠ some hi) (h : (outQ n hi oj ss S)[i]? = some u) : (i = hi ∧ u = S.getD n .no) ∨ (i ≠ hi ∧ oj = some i ∧ u = S.getD i .no) ∨ (i ≠ hi ∧ oj ≠ some i ∧ ss[i]? = some u) := by
  unfold outQ at h
  split at h
  · rw [List.getElem?_set] at h
    split at h
    · split at h
      · cases h; exact .inl ⟨by omega, rfl⟩
      · cases h
    · exact .inr (.inr ⟨by omega, (by intro z; cases z), h⟩)
  · rename_i j
    rw [List.getElem?_set] at h
    split at h
    · rename_i hji
      split at h
      · cases h
        subst hji
        exact .inr (.inl ⟨fun z => hj (by rw [z]), rfl, rfl⟩)
      · cases h
    · rename_i hji
      rw [List.getElem?_set] at h
      split at h
      · split at h
        · cases h; exact .inl ⟨by omega, rfl⟩
        · cases h
      · exact .inr (.inr ⟨by omega, fun z => hji (Option.some.inj z), h⟩)
def ksQ (hi : Nat) : Option Nat → List Nat
  | none => [hi]
  | some j => [hi, j]
theorem fn_okZ {P : Program} {w : World} {K : PySem.W.Frag} {mg : Str → Option Value} {base : Heap} {ca : Nat → Addr} {x qual : Str} {st : Stmt} {f : Addr} {fd : FuncData} {N ps : List Str} {k : Nat} (hi : Nat) (oj : Option Nat) (F : Fun K x qual st f fd) (S : FnScope N ps (defScope st)) (FF : Env → Rs OutZ)
    (hb : ∀ (cdv : Value) (A : Around) (outer : List PySem.Env) (s : Shared) (H : Hp) (E : XK), Room k (A.deeper (PyProof.Rows.envOfC qual (defScope st) s.heap.objs.size f cdv)) →
      CxOk (cxOf (L2.CX P w) P w K mg base N qual (defScope st) f cdv A outer s H E) E →
      ∃ t, JZ ca (cxOf (L2.CX P w) P w K mg base N qual (defScope st) f cdv A outer s H E) ⟨ksQ hi oj, [(hi, 0)], N.length, 1, none⟩ (defBody st) t FF) (hnp : ps.length ≤ N.length := by decide) (hhi : hi < ps.length := by decide) (hoj : oj ≠ some hi := by decide) (hoj2 : ∀ j, oj = some j → j < ps.length := by decide) :
    FnOk P w K mg base (L2.CX P w) (k + 1) f fd ps (spQ ⟨K, ca⟩ (fnQ ps.length N.length hi oj FF) ps.length) := by
  refine F.okX S (fun vs H Q E h => ?_) (fun cdv A outer s H vs Q E hr h => ?_)
  · obtain ⟨G, ss, r, e, _⟩ := h
    have := r.len
    rw [List.length_map] at this
    omega
  · obtain ⟨G, ss, r, el, su, hns, her, hok⟩ := h
    have o : CxOk (cxOf (L2.CX P w) P w K mg base N qual (defScope st) f cdv A outer s H E) E :=
      ⟨rfl, by have := hr.un; show (A.deeper _).units + 200 < cLine; omega, S.nd, passes_of rfl, passes_call (takes_of rfl rfl rfl rfl) fun _ _ _ _ z => z, takes_of rfl rfl rfl rfl⟩
    obtain ⟨t, hps, hsem⟩ := hb cdv A outer s H E hr o
    refine ⟨t, hps, ?_⟩
    have e0 : ∀ hc : shapeQ ps.length hi oj ss = true ∧ hi < ps.length, fnQ ps.length N.length hi oj FF ss = (FF (initQ N.length ps.length hi ss) >>= fun o => match o with
      | .nx S => .ok (.none, outQ N.length hi oj ss S)
      | .rt d S => .ok (d, outQ N.length hi oj ss S)) := fun hc => if_pos hc
    by_cases hc : shapeQ ps.length hi oj ss = true ∧ hi < ps.length
    case neg => exact absurd (if_neg hc) hns
    rw [e0 hc] at hns her hok
    obtain ⟨sl, sa⟩ := shapeQ_at hc.1
    have hv : ss.length = vs.length := by have := r.len; rwa [List.length_map] at this
    have hh : hi < ss.length := by omega
    -- the hall
    obtain ⟨m, ds, hhal⟩ : ∃ m ds, ss[hi]? = some (.hal m ds) := by
      have e := List.getElem?_eq_getElem hh
      have := sa hi _ e
      rw [if_pos rfl] at this
      cases hs : ss[hi] with
      | hal m ds => rw [hs] at e; exact ⟨m, ds, e⟩
      | no => rw [hs] at this; cases this
      | sh d => rw [hs] at this; cases this
      | ol d => rw [hs] at this; cases this
      | od d => rw [hs] at this; cases this
      | exn d => rw [hs] at this; cases this
    obtain ⟨a, dx, p, hσ, ga, ha, hq⟩ := rep_hal r hhal
    have hva : vs[hi]? = some (.ref a) := by
      rw [List.getElem?_map] at hσ
      cases h : vs[hi]? with
      | none => rw [h] at hσ; cases hσ
      | some v => rw [h] at hσ; cases hσ; rfl
    have hst : ∀ i, i < vs.length → (L2.start N vs)[i]? = (vs.map some)[i]? := fun i hi' => by
      show (vs.map some ++ _)[i]? = _
      exact List.getElem?_append_left (by rw [List.length_map]; exact hi')
    have hsl : (L2.start N vs).length = N.length := by
      show (vs.map some ++ List.replicate (N.length - vs.length) none).length = _
      simp only [List.length_append, List.length_map, List.length_replicate]
      omega
    let kj : List (Nat × V) := match oj with
      | none => []
      | some j => match vs[j]? with
        | some v => [(j, v)]
        | none => []
    let z : Zp := ⟨G, cutS H ss vs, [.ref a], (hi, .ref a) :: kj, [], N.length⟩
    have zo : z.Ok := ⟨List.pairwise_singleton _ _, fun v hv' => by
      rw [List.mem_singleton.mp hv']
      exact ⟨a, rfl, cutS_yes hhal rfl hva⟩, fun q hq' => nomatch hq'⟩
    have hkj : ∀ q ∈ kj, oj = some q.1 ∧ vs[q.1]? = some q.2 := fun q hq' => by
      cases oj with
      | none => exact absurd (show q ∈ ([] : List (Nat × V)) from hq') (by simp)
      | some j =>
        cases hvj : vs[j]? with
        | none =>
          have : q ∈ (match vs[j]? with | some v => [(j, v)] | none => []) := hq'
          rw [hvj] at this
          cases this
        | some v =>
          have : q ∈ (match vs[j]? with | some v => [(j, v)] | none => []) := hq'
          rw [hvj] at this
          rw [List.mem_singleton.mp this]
          exact ⟨rfl, hvj⟩
    have sh : Sh ⟨ksQ hi oj, [(hi, 0)], N.length, 1, none⟩ z := ⟨rfl, by
      show hi :: kj.map (fun q : Nat × V => q.1) = ksQ hi oj
      cases oj with
      | none => rfl
      | some j =>
        have hj := hoj2 j rfl
        have : vs[j]? = some (vs[j]'(by omega)) := List.getElem?_eq_getElem (by omega)
        show hi :: (match vs[j]? with | some v => [(j, v)] | none => []).map (fun q : Nat × V => q.1) = [hi, j]
        rw [this]
        rfl, fun q hq' => by
      rw [List.mem_singleton.mp hq']
      exact ⟨.ref a, List.mem_cons_self, rfl⟩, rfl, fun p h => nomatch h⟩
    have r0 : Rep ⟨K, ca⟩ G H (ss.set hi .no ++ List.replicate (N.length - ps.length) Sl.no) (L2.start N vs) := start_slots (N := N) (rep_no r hi) (by rw [List.length_set]; exact el) hnp
    have hgd : ss.getD hi .no = .hal m ds := by rw [List.getD_eq_getElem?_getD, hhal]; rfl
    have R : RZ ⟨K, ca⟩ z (initQ N.length ps.length hi ss) G H (L2.start N vs) := by
      unfold initQ
      rw [hgd]
      have rr := rep_app1 r0 (s := .hal m ds) (o := some (.ref a)) ⟨a, dx, p, rfl, ga, ha, hq⟩ rfl
      refine ⟨rr, ⟨⟨Ex.refl _, cutS_ex, r.gh, fun _ _ g => .inl g⟩, fun i s q h1 h2 h3 => ?_⟩, hsl, ?_, fun q hq' => ?_, fun q hq' => nomatch hq'⟩
      · by_cases hi1 : i < ss.length
        · rw [List.append_assoc, List.getElem?_append_left (by rw [List.length_set]; exact hi1), List.getElem?_set] at h1
          split at h1
          · first
            | (cases h1; cases h2; done)
            | (split at h1 <;> first | (cases h1; cases h2; done) | (cases h1; done))
          · have h3 : (L2.start N vs ++ [some (.ref a)])[i]? = some (some (.ref q)) := h3
            rw [List.getElem?_append_left (by omega), hst i (by omega), List.getElem?_map] at h3
            cases hvi : vs[i]? with
            | none => rw [hvi] at h3; cases h3
            | some v =>
              rw [hvi] at h3
              cases h3
              exact cutS_yes h1 (by unfold spc; rw [h2]; rfl) hvi
        · rw [List.append_assoc, List.getElem?_append_right (by rw [List.length_set]; omega)] at h1
          have hm := List.mem_of_getElem? h1
          rcases List.mem_append.mp hm with hm | hm
          · rw [(List.mem_replicate.mp hm).2] at h2; cases h2
          · rw [List.mem_singleton.mp hm] at h2; cases h2
      · have hl : (ss.set hi .no ++ List.replicate (N.length - ps.length) Sl.no).length = N.length := by
          simp only [List.length_append, List.length_set, List.length_replicate]
          omega
        show (List.take N.length _).all notHal = true
        rw [List.take_append_of_le_length (by omega), List.take_of_length_le (by omega)]
        refine List.all_eq_true.mpr fun s hs => ?_
        rcases List.mem_append.mp hs with hs | hs
        · obtain ⟨i, hi', e⟩ := List.getElem_of_mem hs
          have e : (ss.set hi .no)[i]? = some s := by rw [List.getElem?_eq_getElem hi', e]
          rw [List.getElem?_set] at e
          split at e
          · first
            | (cases e; rfl; done)
            | (split at e <;> first | (cases e; rfl; done) | (cases e; done))
          · have := sa i s e
            rw [if_neg (by omega)] at this
            cases s with
            | hal m ds => split at this <;> cases this
            | no => rfl
            | sh d => rfl
            | ol d => rfl
            | od d => rfl
            | exn d => rfl
        · rw [(List.mem_replicate.mp hs).2]; rfl
      · rcases List.mem_cons.mp hq' with rfl | hq'
        · rw [hst hi (by omega)]; exact hσ
        · obtain ⟨_, e⟩ := hkj q hq'
          rw [hst _ (by have := (List.getElem?_eq_some_iff.mp e).1; omega), List.getElem?_map, e]
          rfl
    -- the end
    have fin : ∀ S' G' H' σ', RZ ⟨K, ca⟩ z S' G' H' σ' → Nx G (cutS H ss vs) G' H' ∧ Rep ⟨K, ca⟩ G' H' (outQ N.length hi oj ss S') (vs.map some) := fun S' G' H' σ' R' => by
      have hs' := R'.slen
      have hs' : S'.length = N.length + 1 := hs'
      have n' := R'.en.nx
      refine ⟨n', ?_⟩
      have hup : (up z σ')[N.length]? = some (some (.ref a)) := up_high R' 0
      have hlow : ∀ j, oj = some j → ∃ v, vs[j]? = some v ∧ (up z σ')[j]? = some (some v) := fun j hj => by
        have hj2 := hoj2 j hj
        have e : vs[j]? = some (vs[j]'(by omega)) := List.getElem?_eq_getElem (by omega)
        refine ⟨_, e, ?_⟩
        have hm : (j, vs[j]'(by omega)) ∈ z.kept := by
          refine List.mem_cons_of_mem _ ?_
          show _ ∈ kj
          show _ ∈ (match oj with | none => [] | some j => match vs[j]? with | some v => [(j, v)] | none => [])
          rw [hj]
          show _ ∈ (match vs[j]? with | some v => [(j, v)] | none => [])
          rw [e]
          exact List.mem_singleton.mpr rfl
        have := R'.kp _ hm
        rw [up_low (by have : σ'.length = N.length := R'.len; omega)]
        exact this
      have pick : ∀ i u, (outQ N.length hi oj ss S')[i]? = some u → (∃ l, S'[l]? = some u ∧ (up z σ')[l]? = (vs.map some)[i]? ∧ ((i = hi ∧ l = N.length) ∨ (i ≠ hi ∧ l = i ∧ i < N.length))) ∨ ∃ d, u = .sh d ∧ ss[i]? = some (.sh d) := fun i u h => by
        rcases outQ_get hoj h with ⟨rfl, rfl⟩ | ⟨h1, h2, rfl⟩ | ⟨h1, h2, h3⟩
        · refine .inl ⟨N.length, ?_, ?_, .inl ⟨rfl, rfl⟩⟩
          · rw [List.getD_eq_getElem?_getD, List.getElem?_eq_getElem (by omega)]
            rfl
          · rw [hup, List.getElem?_map, hva]; rfl
        · obtain ⟨v, v1, v2⟩ := hlow i h2
          have := hoj2 i h2
          refine .inl ⟨i, ?_, ?_, .inr ⟨h1, rfl, by omega⟩⟩
          · rw [List.getD_eq_getElem?_getD, List.getElem?_eq_getElem (by omega)]
            rfl
          · rw [v2, List.getElem?_map, v1]; rfl
        · have := sa i u h3
          rw [if_neg h1, if_neg h2] at this
          cases u with
          | sh d => exact .inr ⟨d, rfl, h3⟩
          | no => cases this
          | ol d => cases this
          | od d => cases this
          | exn d => cases this
          | hal m d => cases this
      refine ⟨R'.rep.gh, ?_, fun i u h => ?_, fun i j u u' p h1 h2 w1 w2 f1 f2 => ?_⟩
      · unfold outQ
        split <;> simp only [List.length_set, List.length_map] <;> omega
      · rcases pick i u h with ⟨l, e1, e2, _⟩ | ⟨d, rfl, e⟩
        · obtain ⟨o, q1, q2⟩ := R'.rep.sl l u e1
          exact ⟨o, by rw [← e2]; exact q1, q2⟩
        · obtain ⟨o, q1, v, rfl, q2⟩ := r.sl i _ e
          exact ⟨_, q1, v, rfl, Dp.ex n'.g q2⟩
      · rcases pick i u h1 with ⟨l, e1, e2, e3⟩ | ⟨d, rfl, e⟩
        · rcases pick j u' h2 with ⟨l', e1', e2', e3'⟩ | ⟨d, rfl, e⟩
          · have := R'.rep.inj l l' u u' p e1 e1' w1 w2 (e2.trans f1) (e2'.trans f2)
            omega
          · cases w2
        · cases w1
    refine hsem z zo sh G H _ _ R (fun e => hns (by rw [e]; rfl)) (fun x e => her x (by rw [e]; rfl)) _ (fun S' e G' H' σ' R' => ?_) fun d' S' e G' H' σ' v R' q => ?_
    · obtain ⟨f1, f2⟩ := fin S' G' H' σ' R'
      exact hok .none _ (by rw [e]; rfl) G' H' .non f1 f2 .non
    · obtain ⟨f1, f2⟩ := fin S' G' H' σ' R'
      exact hok d' _ (by rw [e]; rfl) G' H' v f1 f2 q
theorem fnQ_len {np n hi : Nat} {oj : Option Nat} {F : Env → Rs OutZ} (ss : List Sl) (h : fnQ np n hi oj F ss ≠ .stuck) : ss.length = np := by
  unfold fnQ at h
  split at h
  · rename_i hc
    exact (shapeQ_at hc.1).1
  · exact absurd rfl h
theorem calleeQ_of {P : Program} {w : World} {K : PySem.W.Frag} {mg : Str → Option Value} {base : Heap} {ca : Nat → Addr} {x qual y : Str} {st : Stmt} {f : Addr} {fd : FuncData} {ps : List Str} {k np n hi : Nat} {oj : Option Nat} {F : Env → Rs OutZ} (Fu : Fun K y qual st f fd) (h : FnOk P w K mg base (L2.CX P w) k f fd ps (spQ ⟨K, ca⟩ (fnQ np n hi oj F) np))
    (hm : mg x = some (.ref f)) (hb : Binds K fd ps []) : CalleeQ P w K mg base ca x k (fnQ np n hi oj F) np := ⟨⟨f, fd, ps, h, hm, Fu.kp, hb⟩, fun ss => fnQ_len ss⟩
end PF

namespace PF
open PySem L2

/-! ### the methods that change a hall -/
def spP (c : Pc) (f : Int → List PyData → PyData → Rs (List PyData)) : Sp := fun vs H Q E => ∃ (G : Hp) (a dx p : Addr) (m : Int) (ds : List PyData) (v : V) (d : PyData), vs = [.ref a, v] ∧ Ex G H ∧ G a = none ∧ H a = some (halO (c.ca 6) dx m p) ∧ Dp c.K G (.ref p) (.list ds) ∧ Dp c.K G v d ∧ f m ds d ≠ .stuck ∧
  (∀ ds', f m ds d = .ok ds' → ∀ G' H' p', Nx G H G' H' → G' a = none → H p' = none → Dp c.K G' (.ref p') (.list ds') → Q .non (upd H' a (halO (c.ca 6) dx m p'))) ∧ ErrP c E G H (f m ds d)
def SemR (c : Pc) (E : XK) (t : TS) (F : Env → Rs (List PyData)) : Prop := ∀ (G0 H0 G H : Hp) (ρ : Env) (σ : L2.St) (a dx p : Addr) (m : Int), Rep c G H ρ σ → Ent G0 H0 G H ρ σ → σ[0]? = some (some (.ref a)) → G0 a = none → H0 a = some (halO (c.ca 6) dx m p) → F ρ ≠ .stuck → ∀ D : Ends,
  (∀ ds', F ρ = .ok ds' → ∀ G' H' σ' p', Nx G0 H0 G' H' → G' a = none → H0 p' = none → Dp c.K G' (.ref p') (.list ds') → D.nx σ' (upd H' a (halO (c.ca 6) dx m p'))) → ErrP c E G0 H0 (F ρ) → t D σ H
structure JR (ca : Nat → Addr) (X : Cx) (E : XK) (sts : List Stmt) (t : TS) (F : Env → Rs (List PyData)) : Prop where
  ps : PSs X sts t
  sem : SemR ⟨X.K, ca⟩ E t F
def rSeq (F : Env → Rs Out) (R : Env → Rs (List PyData)) : Env → Rs (List PyData) := fun ρ => F ρ >>= fun o => match o with
  | .nx ρ' => R ρ'
  | .rt _ => .stuck
def slL : Sl → Rs (List PyData)
  | .ol ds => .ok ds
  | _ => .stuck
def rLast (F : Env → Rs Sl) : Env → Rs (List PyData) := fun ρ => F ρ >>= slL
theorem hid_hal {G H G' H' : Hp} {a : Addr} {C dx : Addr} {fs : List (Str × V)} (n : Nx G H G' H') (g : G a = none) (h : H a = some (.ins C dx fs)) : G' a = none := by
  rcases n.fr a (by rw [h]; exact fun z => nomatch z) g with q | ⟨xs, q⟩
  · exact q
  · have e1 := n.gh _ _ q
    have e2 := n.h _ _ h
    rw [e1] at e2
    cases e2
section
variable {ca : Nat → Addr} {X : Cx} {E : XK} {st : Stmt} {sts : List Stmt} {t u : TS}
theorem jr_cons {F : Env → Rs Out} {R : Env → Rs (List PyData)} (h : JP ca X E st t F) (hk : Keeps 0 t) (h' : JR ca X E sts u R) : JR ca X E (st :: sts) (tSeq t u) (rSeq F R) :=
  ⟨pss_cons h.ps h'.ps, fun G0 H0 G H ρ σ a dx p m rep en hσ ga ha hns D nx er => by
    refine hk.use ?_
    refine h.sem G0 H0 G H ρ σ rep en (fun e => hns (by unfold rSeq; rw [e]; rfl)) _ (fun ρ' e G' H' σ' rep' en' ag => ?_) (fun s e => absurd (by unfold rSeq; rw [e]; rfl) hns) fun x e => er x (by unfold rSeq; rw [e]; rfl)
    have e1 : rSeq F R ρ = R ρ' := by unfold rSeq; rw [e]; rfl
    rw [e1] at hns nx er
    have ag : σ'[0]? = σ[0]? := ag
    exact h'.sem G0 H0 G' H' ρ' σ' a dx p m rep' en' (ag.trans hσ) ga ha hns D nx er⟩
theorem jr_last {e : Expr} {te : TE} {F : Env → Rs Sl} {x : Str} {p1 p2 pos : Pos} (T : HK X.K ca) (h : JV ca X E e te F) (hv : PE X (.Name x p1) (tVar 0)) (hs : swapsWith e (some (.Attribute (.Name x p1) "standing" p2)) pos.line X.env = pure false := by rfl) :
    JR ca X E [.Assign [.Attribute (.Name x p1) "standing" p2] e pos] (sFld X.K (tVar 0) te "standing") (rLast F) :=
  ⟨pss_one (ps_fld hv h.pe hs), fun G0 H0 G H ρ σ a dx p m rep en hσ ga ha hns D nx er => by
    refine h.sem.use (k := slL) rep hns (fun x e G' H' cl dd n => er x e G' H' cl dd (en.nx.trans n)) fun s es e1 G1 H1 v n1 r1 q1 hk _ => ?_
    have n0 := en.nx.trans n1
    have hH := n0.h _ _ ha
    have fin : ∀ G' p', v = .ref p' → H0 p' = none → Nx G0 H0 G' H1 → ∀ ds', rLast F ρ = .ok ds' → Dp X.K G' (.ref p') (.list ds') → (tVar 0) σ H1 fun x H2 => ∃ a C dx fs, x = .ref a ∧ H2 a = some (.ins C dx fs) ∧ Cls X.K C ∧ NoAttr X.K C "standing" ∧ fs.length < 1000 ∧ D.nx σ (upd H2 a (.ins C dx (putF "standing" v fs)))   := fun G' p' hp' hn' n ds' e2 q => by
      refine ⟨.ref a, hσ, a, ca 6, dx, _, rfl, hH, T.c, T.s, (by show 2 < 1000; decide), ?_⟩
      have := nx ds' e2 G' H1 σ p' n (hid_hal n ga ha) hn' q
      rw [hp']
      exact this
    cases s with
    | sh d => exact absurd rfl hk
    | ol ds =>
      obtain ⟨p', xs, rfl, h0, g1, h1, q⟩ := q1
      have m1 := n1.show h0 h1 g1
      exact fin (upd G1 p' (.lst xs)) p' rfl (en.nx.h.back h0) (en.nx.trans m1) ds e1 (.lst (.inl (.inl upd_same)) (DpAll.ex (Ex.new g1) q))
    | no => exact absurd rfl hk
    | od d => exact absurd rfl hk
    | exn d => exact absurd rfl hk
    | hal _ _ => exact absurd rfl hk⟩
end
def fnP (n : Nat) (F : Env → Rs (List PyData)) (m : Int) (ds : List PyData) (d : PyData) : Rs (List PyData) := F ([.hal m ds, .sh d] ++ List.replicate (n - 2) Sl.no)
theorem fn_okP {P : Program} {w : World} {K : PySem.W.Frag} {mg : Str → Option Value} {base : Heap} {ca : Nat → Addr} {x qual : Str} {st : Stmt} {f : Addr} {fd : FuncData} {N ps : List Str} {k : Nat} (F : Fun K x qual st f fd) (S : FnScope N ps (defScope st)) (FF : Env → Rs (List PyData))
    (hb : ∀ (cdv : Value) (A : Around) (outer : List PySem.Env) (s : Shared) (H : Hp) (E : XK), Room k (A.deeper (PyProof.Rows.envOfC qual (defScope st) s.heap.objs.size f cdv)) →
      CxOk (cxOf (L2.CX P w) P w K mg base N qual (defScope st) f cdv A outer s H E) E →
      ∃ t, JR ca (cxOf (L2.CX P w) P w K mg base N qual (defScope st) f cdv A outer s H E) E (defBody st) t FF) (hnp : 2 ≤ N.length := by decide) (hps : ps.length = 2 := by decide) :
    FnOk P w K mg base (L2.CX P w) (k + 1) f fd ps (spP ⟨K, ca⟩ (fnP N.length FF)) := by
  refine F.okX S (fun vs H Q E h => ?_) (fun cdv A outer s H vs Q E hr h => ?_)
  · obtain ⟨G, a, dx, p, m, ds, v, d, rfl, _⟩ := h
    rw [hps]
    rfl
  · obtain ⟨G, a, dx, p, m, ds, v, d, rfl, gh, ga, ha, qp, qv, hns, hok, her⟩ := h
    have o : CxOk (cxOf (L2.CX P w) P w K mg base N qual (defScope st) f cdv A outer s H E) E :=
      ⟨rfl, by have := hr.un; show (A.deeper _).units + 200 < cLine; omega, S.nd, passes_of rfl, passes_call (takes_of rfl rfl rfl rfl) fun _ _ _ _ z => z, takes_of rfl rfl rfl rfl⟩
    obtain ⟨t, hps', hsem⟩ := hb cdv A outer s H E hr o
    refine ⟨t, hps', ?_⟩
    have r : Rep ⟨K, ca⟩ G H [.hal m ds, .sh d] ([V.ref a, v].map some) := rep_consN ⟨a, dx, p, rfl, ga, ha, qp⟩ rfl (rep_consN ⟨v, rfl, qv⟩ rfl (rep_slots gh))
    have rep := start_slots (N := N) r rfl hnp
    have ent : Ent G H G H ([.hal m ds, .sh d] ++ List.replicate (N.length - 2) Sl.no) (L2.start N [V.ref a, v]) := ⟨Nx.refl gh, fun i s p h1 h2 h3 => by
      rcases List.mem_append.mp (List.mem_of_getElem? h1) with q | q
      · simp only [List.mem_cons, List.mem_nil_iff, or_false] at q
        rcases q with rfl | rfl <;> cases h2
      · rw [(List.mem_replicate.mp q).2] at h2; cases h2⟩
    exact hsem G H G H _ _ a dx p m rep ent rfl ga ha hns _ (fun ds' e G' H' σ' p' n g' hn q => hok ds' e G' H' p' n g' hn q) her
structure MetP (P : Program) (w : World) (K : PySem.W.Frag) (mg : Str → Option Value) (base : Heap) (ca : Nat → Addr) (m : Str) (k : Nat) (f : Int → List PyData → PyData → Rs (List PyData)) : Prop where
  ex : ∃ (a : Addr) (fd : FuncData) (ps : List Str), Cls K (ca 6) ∧ Meth K (ca 6) m a ∧ FnOk P w K mg base (L2.CX P w) k a fd ps (spP ⟨K, ca⟩ f) ∧ Binds K fd ps []
/-! ### h.m(e), in a try or without -/
/-- what such a call leaves -/
theorem RZ.made {c : Pc} {z : Zp} {S : Env} {G H G' H' : Hp} {σ : L2.St} (zo : z.Ok) (R : RZ c z S G H σ) {k : Nat} {m : Int} {ds ds' : List PyData} {a dx p' : Addr} (hk : S[z.n + k]? = some (.hal m ds)) (hv : z.gv[k]? = some (.ref a)) (ga : G a = none) (hdx : ∃ p, H a = some (halO (c.ca 6) dx m p)) (n : Nx G H G' H') (g' : G' a = none) (q : Dp c.K G' (.ref p') (.list ds')) :
    RZ c z (S.set (z.n + k) (.hal m ds')) G' (upd H' a (halO (c.ca 6) dx m p')) σ := by
  obtain ⟨p, ha⟩ := hdx
  have hH := n.h _ _ ha
  have R' := R.nx n
  have hl := R.slen
  have hlt := (List.getElem?_eq_some_iff.mp hk).1
  have hup : (up z σ)[z.n + k]? = some (some (.ref a)) := by rw [up_high R, hv]; rfl
  have oth : ∀ (j : Nat) u, (S.set (z.n + k) (.hal m ds'))[j]? = some u → (j = z.n + k ∧ u = .hal m ds') ∨ (j ≠ z.n + k ∧ S[j]? = some u) := fun j u h => by
    rw [List.getElem?_set] at h
    split at h
    · first
      | (cases h; exact .inl ⟨by omega, rfl⟩)
      | (split at h
         · cases h; exact .inl ⟨by omega, rfl⟩
         · cases h)
    · exact .inr ⟨by omega, h⟩
  have gh : Ex G' (upd H' a (halO (c.ca 6) dx m p')) := fun b o hb => by
    rw [upd_ne (fun w => by rw [w, g'] at hb; cases hb)]
    exact n.gh b o hb
  have h0 : z.H0 a = none := by
    obtain ⟨b, e, h⟩ := zo.rf _ (List.mem_of_getElem? hv)
    cases e
    exact h
  refine ⟨⟨gh, by rw [List.length_set, R.rep.len], fun j u h => ?_, fun i j s s' r h1 h2 w1 w2 f1 f2 => ?_⟩, ⟨⟨R'.en.nx.g, fun b o hb => ?_, gh, R'.en.nx.fr⟩, fun j u r h w f => ?_⟩, R.len, ?_, R.kp, fun r hr => ?_⟩
  · rcases oth j u h with ⟨rfl, rfl⟩ | ⟨hj, h⟩
    · exact ⟨_, hup, a, dx, p', rfl, g', upd_same, q⟩
    · obtain ⟨o, e1, q1⟩ := R'.rep.sl j u h
      refine ⟨o, e1, ?_⟩
      cases hsp : spc u with
      | false =>
        cases u with
        | no => trivial
        | sh d => exact q1
        | exn x => exact q1
        | ol d => cases hsp
        | od d => cases hsp
        | hal m d => cases hsp
      | true =>
        obtain ⟨r, _, rfl, _⟩ := spc_at hsp q1
        have hc : r ≠ a := fun w => hj (R.uniq zo h hk hsp rfl e1 (by rw [w]; exact hup))
        cases u with
        | no => trivial
        | sh d => exact q1
        | exn x => exact q1
        | ol d => obtain ⟨b, xs, z1, z2, z3, z4⟩ := q1; cases z1; exact ⟨_, xs, rfl, z2, by rw [upd_ne hc]; exact z3, z4⟩
        | od d => obtain ⟨b, xs, z1, z2, z3, z4⟩ := q1; cases z1; exact ⟨_, xs, rfl, z2, by rw [upd_ne hc]; exact z3, z4⟩
        | hal m d => obtain ⟨b, dx, xs, z1, z2, z3, z4⟩ := q1; cases z1; exact ⟨_, dx, xs, rfl, z2, by rw [upd_ne hc]; exact z3, z4⟩
  · rcases oth i s h1 with ⟨rfl, rfl⟩ | ⟨hi, h1⟩
    · cases w1
    · rcases oth j s' h2 with ⟨rfl, rfl⟩ | ⟨hj, h2⟩
      · cases w2
      · exact R.rep.inj i j s s' r h1 h2 w1 w2 f1 f2
  · rw [upd_ne (fun w => by rw [w, h0] at hb; cases hb)]
    exact R'.en.nx.h b o hb
  · rcases oth j u h with ⟨rfl, rfl⟩ | ⟨hj, h⟩
    · cases w
    · exact R.en.own j u r h w f
  · rw [List.take_set_of_le (by omega)]
    exact R.nh
  · obtain ⟨q1, q2⟩ := R'.sd r hr
    refine ⟨?_, fun ⟨j, u, h1, h2, h3⟩ => ?_⟩
    · rw [upd_ne (fun w => by
        rw [w, hH] at q1
        exact zo.sd r hr _ _ _ (Option.some.inj q1).symm)]
      exact q1
    · rcases oth j u h1 with ⟨rfl, rfl⟩ | ⟨hj, h1⟩
      · cases h2
      · exact q2 ⟨j, u, h1, h2, h3⟩
/-- o.m(e), where what is let out hangs on the variables -/
def tMetT (C : Addr) (m : Str) (sp : Sp) (E : L2.St → XK) (ta : TE) (t : TA) : TE := fun σ H Q => ta σ H fun x H1 => ∃ a dx fs, x = .ref a ∧ H1 a = some (.ins C dx fs) ∧ fs.lookup m = none ∧ t σ H1 fun vs H2 => sp (x :: vs) H2 Q (E σ)
theorem pe_metT {X : Cx} {k : Nat} {f C : Addr} {fd : FuncData} {ps : List Str} {sp : Sp} {E : L2.St → XK} {m : Str} {pos apos : Pos} {e o : Expr} {es : List Expr} {ta : TE} {t : TA} {pl : Sem Bool} (ho : PE X o ta) (hc : Cls X.K C) (hm : Meth X.K C m f)
    (F : FnOk X.prog X.w X.K X.mg X.base (L2.CX X.prog X.w) k f fd ps sp) (hr : Room k X.A) (hb : Binds X.K fd ps []) (hx : ∀ σ, PassesAt (L2.CX X.prog X.w) X σ (E σ)) (ha : PA X (e :: es) t)
    (he : starEach (e :: es) X.env = (false, eval e X.env) :: starEach es X.env := by rfl) (hpl : (backTo pos (starEach es X.env)).any (·.1) = false := by rfl)
    (ht : eval (.Call (.Attribute o m apos) (e :: es) [] pos) X.env = (do
      let ov ← eval o X.env
      standAt apos.atName
      let (g, first) ← holding [ov] (getMethod ov m pl)
      callWith pos g first (backTo pos (starEach (e :: es) X.env)) (backToKw pos (keywordEach [] X.env))) := by rfl) :
    PE X (.Call (.Attribute o m apos) (e :: es) [] pos) (tMetT C m sp E ta t) := by
  constructor
  intro pins s σ H Q I hq
  apply PySem.W.methodCall_KW (pl := pl) _ ht
  refine thn (ho.run pins s σ H _ I hq) ?_
  rintro u s1 ⟨x, H1, I1, rx, a, dx, fs, rfl, ea, l, q⟩
  cases (show u = Value.ref a from rx)
  apply getmeth_ok I1 ea hc hm l
  apply PySem.W.callWith_K (first := [.ref a]) (h₀ := X.base) I.ok.mod.kin hm.kp _ he hpl
  refine thn (ha.run pos pins s1 σ H1 _ I1 q) ?_
  rintro us s2 ⟨vs, H2, I2, r, q2⟩
  exact ⟨I2.kIn, run_fnS (us := .ref a :: us) (vs := .ref a :: vs) F hr hb (hx σ) I2 (.cons rfl r) q2⟩
def zTry (n k i j : Nat) (f : Int → List PyData → PyData → Rs (List PyData)) (Fe : Env → Rs PyData) : Env → Rs OutZ := fun S => match S[n + k]? with
  | some (.hal m ds) => Fe (S.take n) >>= fun d => match f m ds d with
    | .ok ds' => .ok (.nx (S.set (n + k) (.hal m ds')))
    | .err x => if eOk x.cls ∧ i < n ∧ j < n then .ok (.nx ((((S.take n).set i .no).set j (.exn x)).set i .no ++ S.drop n)) else .stuck
    | .stuck => .stuck
  | _ => .stuck
def zPut (n k : Nat) (f : Int → List PyData → PyData → Rs (List PyData)) (Fe : Env → Rs PyData) : Env → Rs OutZ := fun S => match S[n + k]? with
  | some (.hal m ds) => Fe (S.take n) >>= fun d => f m ds d >>= fun ds' => .ok (.nx (S.set (n + k) (.hal m ds')))
  | _ => .stuck
def tryK (n k i j : Nat) (S : Env) (m : Int) : Rs (List PyData) → Rs OutZ
  | .ok ds' => if lfreeAll ds' = true then .ok (.nx (S.set (n + k) (.hal m ds'))) else .stuck
  | .err x => if eOk x.cls ∧ i < n ∧ j < n then .ok (.nx ((((S.take n).set i .no).set j (.exn x)).set i .no ++ S.drop n)) else .stuck
  | .stuck => .stuck
def zTryL (n k i j l : Nat) (f : Int → List PyData → PyData → Rs (List PyData)) : Env → Rs OutZ := fun S => match S[n + k]? with
  | some (.hal m ds) => (match S[l]? with
    | some (.ol ys) => tryK n k i j S m (f m ds (.list ys))
    | _ => .stuck)
  | _ => .stuck
theorem lend_back {G H G' H' : Hp} {p : Addr} {xs : List V} (gp : G p = none) (n : Nx (upd G p (.lst xs)) H G' H') : G' p = some (.lst xs) ∧ Nx G H (rmH G' p) H' := by
  have gp' : G' p = some (.lst xs) := n.g p _ upd_same
  refine ⟨gp', fun a u ea => ?_, n.h, fun a u ea => n.gh a u (rmH_some ea).1, fun a ha ga => ?_⟩
  · have hne : a ≠ p := ne_of_none ea gp
    rw [rmH_ne hne]
    exact n.g a u (by rw [upd_ne hne]; exact ea)
  · by_cases hap : a = p
    · exact .inl (by unfold rmH; rw [if_pos hap])
    · rw [rmH_ne hap]
      exact n.fr a ha (by rw [upd_ne hap]; exact ga)
theorem dpl_rm {K : PySem.W.Frag} {G : Hp} {p q : Addr} {zs : List V} {ds : List PyData} (hp : G p = some (.lst zs)) (hq : q ≠ p) (hf : lfreeAll ds = true) (h : Dp K G (.ref q) (.list ds)) : Dp K (rmH G p) (.ref q) (.list ds) := by
  obtain ⟨a, xs, e, h1, h2⟩ := Dp.list_v h
  cases e
  refine .lst ?_ (dps_rm hp hf h2)
  rcases h1 with h1 | h1
  · rcases h1 with h1 | ⟨o, h1⟩
    · exact .inl (.inl (by rw [rmH_ne hq]; exact h1))
    · exact .inl (.inr ⟨o, by rw [rmH_ne hq]; exact h1⟩)
  · exact .inr h1
section
variable {ca : Nat → Addr} {X : Cx} {d : Zd}
theorem RZ.hall {c : Pc} {z : Zp} {S : Env} {G H : Hp} {σ : L2.St} (R : RZ c z S G H σ) {k : Nat} {m : Int} {ds : List PyData} {v : V} (hk : S[z.n + k]? = some (.hal m ds)) (hv : z.gv[k]? = some v) : ∃ a dx p, v = .ref a ∧ G a = none ∧ H a = some (halO (c.ca 6) dx m p) ∧ Dp c.K G (.ref p) (.list ds) := by
  obtain ⟨o, e1, a, dx, p, rfl, ga, ha, q⟩ := R.rep.sl _ _ hk
  rw [up_high R, hv] at e1
  cases e1
  exact ⟨a, dx, p, rfl, ga, ha, q⟩
/-- h.m(e) -/
theorem zj_put (hv k : Nat) {h m : Str} {kl : Nat} {f : Int → List PyData → PyData → Rs (List PyData)} {e : Expr} {te : TE} {Fe : Env → Rs PyData} {E : XK} {p apos cpos pos : Pos} {pl : Sem Bool} (M : MetP X.prog X.w X.K X.mg X.base ca m kl f) (hr : Room kl X.A) (hx : Passes (L2.CX X.prog X.w) X E) (hn : PE X (.Name h p) (tVar hv)) (hm : (hv, k) ∈ d.vw) (he : JS ca X E e te Fe)
    (hl : ∀ a b : V, List.lookup m [(("many" : Str), a), (("standing" : Str), b)] = none := by intro _ _; rfl)
    (hst : starEach [e] X.env = (false, eval e X.env) :: starEach [] X.env := by rfl) (hpl : (backTo cpos (starEach [] X.env)).any (·.1) = false := by rfl)
    (ht : eval (.Call (.Attribute (.Name h p) m apos) [e] [] cpos) X.env = (do
      let ov ← eval (.Name h p) X.env
      standAt apos.atName
      let (f, first) ← holding [ov] (getMethod ov m pl)
      callWith cpos f first (backTo cpos (starEach [e] X.env)) (backToKw cpos (keywordEach [] X.env))) := by rfl) (hsw : swapsWith (.Call (.Attribute (.Name h p) m apos) [e] [] cpos) none pos.line X.env = pure false := by rfl) :
    JZ1 ca X d (.Expr (.Call (.Attribute (.Name h p) m apos) [e] [] cpos) pos) (tDrop (tMeth (ca 6) m (spP ⟨X.K, ca⟩ f) [] E (tVar hv) (tCons te tNil))) (zPut d.n k f Fe) := by
  obtain ⟨fa, fd, ps, hc, hme, F, hb⟩ := M.ex
  refine ⟨ps_expr (pe_meth (pl := pl) hn hc hme F hr hb .nil hx (pa_cons he.pe pa_nil hst) hst hpl ht) hsw, fun z zo sh G H S σ R hns her D nx rt => ?_⟩
  obtain ⟨v, h1, h2⟩ := sh.vw _ hm
  unfold zPut at hns her nx
  cases hs : S[d.n + k]? with
  | none => rw [hs] at hns; exact absurd rfl hns
  | some s =>
  cases s with
  | no => rw [hs] at hns; exact absurd rfl hns
  | sh d => rw [hs] at hns; exact absurd rfl hns
  | ol d => rw [hs] at hns; exact absurd rfl hns
  | od d => rw [hs] at hns; exact absurd rfl hns
  | exn d => rw [hs] at hns; exact absurd rfl hns
  | hal mm ds =>
    rw [hs] at hns her nx
    have hs' := hs
    rw [← sh.n] at hs'
    obtain ⟨a, dx, q, rfl, ga, ha, qd⟩ := R.hall hs' h2
    refine (⟨.ref a, R.kp _ h1, a, dx, _, rfl, ha, hl _ _, ?_⟩ : ∃ v, σ[hv]? = some (some v) ∧ ∃ a dx fs, v = .ref a ∧ H a = some (.ins (ca 6) dx fs) ∧ fs.lookup m = none ∧ (tCons te tNil) σ H fun vs H2 => spP ⟨X.K, ca⟩ f (v :: (vs ++ [])) H2 (fun _ H1 => D.nx σ H1) E)
    have hns : (Fe (S.take d.n) >>= fun d' => f mm ds d' >>= fun ds' => Rs.ok (OutZ.nx (S.set (d.n + k) (.hal mm ds')))) ≠ .stuck := hns
    have her : ∀ x, (Fe (S.take d.n) >>= fun d' => f mm ds d' >>= fun ds' => Rs.ok (OutZ.nx (S.set (d.n + k) (.hal mm ds')))) ≠ .err x := her
    have nx : ∀ S', (Fe (S.take d.n) >>= fun d' => f mm ds d' >>= fun ds' => Rs.ok (OutZ.nx (S.set (d.n + k) (.hal mm ds')))) = .ok (.nx S') → ∀ G' H' σ', RZ ⟨X.K, ca⟩ z S' G' H' σ' → D.nx σ' H' := nx
    have low := R.low
    rw [sh.n] at low
    refine he.sem G H _ σ low (fun w => hns (by rw [w]; rfl)) _ (fun dd ed G1 H1 v1 n1 q1 => ?_) fun x w => absurd (by rw [w]; rfl) (her x)
    rw [ed] at hns her nx
    have R1 := R.nx n1
    show spP ⟨X.K, ca⟩ f [.ref a, v1] H1 (fun _ H1 => D.nx σ H1) E
    refine ⟨G1, a, dx, q, mm, ds, v1, dd, rfl, n1.gh, hid_hal n1 ga ha, n1.h _ _ ha, Dp.ex n1.g qd, q1, fun w => hns (by show (f mm ds dd >>= _) = _; rw [w]; rfl), fun ds' e4 G' H' p' n' g' _ q' => ?_, fun x w => absurd (by show (f mm ds dd >>= _) = _; rw [w]; rfl) (her x)⟩
    refine nx _ (by show (f mm ds dd >>= _) = _; rw [e4]; rfl) G' _ σ ?_
    rw [← sh.n]
    exact R1.made zo hs' h2 (hid_hal n1 ga ha) ⟨_, n1.h _ _ ha⟩ n' g' q'
/-- try: h.m(e), what is refused is kept -/
theorem zj_try (hv k i j : Nat) {h m n y : Str} {kl : Nat} {f : Int → List PyData → PyData → Rs (List PyData)} {e : Expr} {te : TE} {Fe : Env → Rs PyData} {p apos cpos epos np py pn pa pos pos' : Pos} {pl : Sem Bool} (T : EX X.K X.mg ca) (M : MetP X.prog X.w X.K X.mg X.base ca m kl f) (hr : Room kl X.A) (hv' : ∀ (pn : List (Addr × Obj)) (xe : Value → Shared → Prop), PE (X.tr pn xe) (.Name h p) (tVar hv)) (hm : (hv, k) ∈ d.vw) (he : ∀ (pn : List (Addr × Obj)) (xe : Value → Shared → Prop) (E : XK), JS ca (X.tr pn xe) E e te Fe)
    (hN : X.N.Nodup) (hi : X.N[i]? = some n) (hj : X.N[j]? = some y) (hln : X.env.kindOf n = some .local) (hly : X.env.kindOf y = some .local) (hki : ∀ q ∈ d.ks, q ≠ i ∧ q ≠ j)
    (hl : ∀ a b : V, List.lookup m [(("many" : Str), a), (("standing" : Str), b)] = none := by intro _ _; rfl)
    (h1 : (n == ("__debug__" : Str)) = false := by decide) (h2 : (n == ("__classdict__" : Str)) = false := by decide) (hg : Gl X "WallError" := by rfl) (hex : X.ex = [] := by rfl) (hs : X.stack = X.env :: X.outer := by rfl) (hf : X.env.frame = some X.env.locals := by rfl) (hsw : swapsWith (.Name n pn) (some (.Name y py)) pa.line X.env = pure false := by rfl)
    (hst : starEach [e] X.env = (false, eval e X.env) :: starEach [] X.env := by rfl) (hpl : (backTo cpos (starEach [] X.env)).any (·.1) = false := by rfl)
    (ht : eval (.Call (.Attribute (.Name h p) m apos) [e] [] cpos) X.env = (do
      let ov ← eval (.Name h p) X.env
      standAt apos.atName
      let (g, first) ← holding [ov] (getMethod ov m pl)
      callWith cpos g first (backTo cpos (starEach [e] X.env)) (backToKw cpos (keywordEach [] X.env))) := by rfl) (hsw2 : swapsWith (.Call (.Attribute (.Name h p) m apos) [e] [] cpos) none epos.line X.env = pure false := by rfl) :
    JZ1 ca X d (.Try [.Expr (.Call (.Attribute (.Name h p) m apos) [e] [] cpos) epos] [.ExceptHandler (some (.Name "WallError" np)) (some n) [.Assign [.Name y py] (.Name n pn) pa] pos'] [] [] pos)
      (fun D σ H => (tDrop (tMetT (ca 6) m (spP ⟨X.K, ca⟩ f) (WE (wKeep X.K (.ref (ca 0)) i (tAsg (tVar i) (gName j)) D)) (tVar hv) (tCons te tNil))) D σ H) (zTry d.n k i j f Fe) := by
  obtain ⟨fa, fd, ps, hc, hme, F, hb⟩ := M.ex
  have c := T.cl 0 (by decide)
  have vis : ∀ (a : Addr) (pn' : List (Addr × Obj)), PE (X.suite a pn') (.Name n pn) (tVar i) := fun a pn' => pe_var (X := X.suite a pn') hi (.inl hln) h1 h2
  refine ⟨ps_try_keep hex hs hf hN hi hln ⟨hg, by decide, .inl c.g⟩ (fun W pn xe tk po => pss_one (ps_expr (pe_metT (X := X.tr pn xe) (pl := pl) (hv' pn xe) hc hme F hr hb (fun σ => passAt tk σ) (pa_cons (he pn xe E0).pe pa_nil hst) hst hpl ht) hsw2)) (fun a pn' => pss_one (ps_set (X := X.suite a pn') (i := j) hN hj (.inl hly) (vis a pn') hsw (.inr hly))), fun z zo sh G H S σ R hns her D nx rt => ?_⟩
  obtain ⟨v, w1, w2⟩ := sh.vw _ hm
  unfold zTry at hns her nx
  cases hs : S[d.n + k]? with
  | none => rw [hs] at hns; exact absurd rfl hns
  | some s =>
  cases s with
  | no => rw [hs] at hns; exact absurd rfl hns
  | sh d => rw [hs] at hns; exact absurd rfl hns
  | ol d => rw [hs] at hns; exact absurd rfl hns
  | od d => rw [hs] at hns; exact absurd rfl hns
  | exn d => rw [hs] at hns; exact absurd rfl hns
  | hal mm ds =>
    rw [hs] at hns her nx
    have hs' := hs
    rw [← sh.n] at hs'
    obtain ⟨a, dx, q, rfl, ga, ha, qd⟩ := R.hall hs' w2
    generalize hF : (fun (d' : PyData) => (match f mm ds d' with
      | .ok ds' => Rs.ok (OutZ.nx (S.set (d.n + k) (.hal mm ds')))
      | .err x => if eOk x.cls ∧ i < d.n ∧ j < d.n then .ok (.nx ((((S.take d.n).set i .no).set j (.exn x)).set i .no ++ S.drop d.n)) else .stuck
      | .stuck => .stuck)) = Fk
    have hns : (Fe (S.take d.n) >>= Fk) ≠ .stuck := by rw [← hF]; exact hns
    have her : ∀ x, (Fe (S.take d.n) >>= Fk) ≠ .err x := by rw [← hF]; exact her
    have nx : ∀ S', (Fe (S.take d.n) >>= Fk) = .ok (.nx S') → ∀ G' H' σ', RZ ⟨X.K, ca⟩ z S' G' H' σ' → D.nx σ' H' := by rw [← hF]; exact nx
    have low := R.low
    rw [sh.n] at low
    refine ⟨.ref a, R.kp _ w1, a, dx, _, rfl, ha, hl _ _, ?_⟩
    refine (he [] (fun _ _ => False) (fun cls dd H => wKeep X.K (.ref (ca 0)) i (tAsg (tVar i) (gName j)) D cls dd σ H)).sem G H _ σ low (fun w => hns (by rw [w]; rfl)) _ (fun dd ed G1 H1 v1 n1 q1 => ?_) fun x w => absurd (by rw [w]; rfl) (her x)
    rw [ed] at hns her nx
    have hns : Fk dd ≠ .stuck := hns
    have nx : ∀ S', Fk dd = .ok (.nx S') → ∀ G' H' σ', RZ ⟨X.K, ca⟩ z S' G' H' σ' → D.nx σ' H' := nx
    have hFd : Fk dd = (match f mm ds dd with
      | .ok ds' => Rs.ok (OutZ.nx (S.set (d.n + k) (.hal mm ds')))
      | .err x => if eOk x.cls ∧ i < d.n ∧ j < d.n then .ok (.nx ((((S.take d.n).set i .no).set j (.exn x)).set i .no ++ S.drop d.n)) else .stuck
      | .stuck => .stuck) := by rw [← hF]
    have R1 := R.nx n1
    show spP ⟨X.K, ca⟩ f [.ref a, v1] H1 (fun _ H1 => D.nx σ H1) (fun cls dd H => wKeep X.K (.ref (ca 0)) i (tAsg (tVar i) (gName j)) D cls dd σ H)
    refine ⟨G1, a, dx, q, mm, ds, v1, dd, rfl, n1.gh, hid_hal n1 ga ha, n1.h _ _ ha, Dp.ex n1.g qd, q1, fun w => hns (by rw [hFd, w]), fun ds' e4 G' H' p' n' g' _ q' => ?_, fun x ex G' H' cl dd' n' xr => ?_⟩
    · refine nx _ (by rw [hFd, e4]) G' _ σ ?_
      rw [← sh.n]
      exact R1.made zo hs' w2 (hid_hal n1 ga ha) ⟨_, n1.h _ _ ha⟩ n' g' q'
    · rw [hFd, ex] at hns
      have hx : eOk x.cls ∧ i < d.n ∧ j < d.n := Classical.byContradiction fun hc => hns (if_neg hc)
      have eF : Fk dd = .ok (.nx ((((S.take d.n).set i .no).set j (.exn x)).set i .no ++ S.drop d.n)) := by
        rw [hFd, ex]
        exact if_pos hx
      have nx := nx _ eF
      obtain ⟨rfl, hp⟩ := xr
      have R2 := R1.nx n'
      refine ⟨T.exm hx.1, _, rfl, fun b hb' => ?_⟩
      have gb : G' b = none := n'.gh.back hb'
      have m : Nx G' H' (upd G' b (excO (ca x.cls) dd' b)) (upd H' b (excO (ca x.cls) dd' b)) := Nx.new n'.gh hb'
      have R3 := R2.nx m
      have low3 := R3.low
      rw [sh.n] at low3
      have en3 : Ent (upd G' b (excO (ca x.cls) dd' b)) (notOwn (upd H' b (excO (ca x.cls) dd' b)) (S.take d.n) σ) _ _ (S.take d.n) σ := ent_here low3
      have rep1 : Rep ⟨X.K, ca⟩ _ _ ((S.take d.n).set i .no) (σ.set i (some (.ref b))) := low3.set rfl trivial
      have en1 := ent_no i (some (.ref b)) en3
      have hil : i < σ.length := by rw [R.len, sh.n]; exact hx.2.1
      refine ⟨.ref b, by rw [List.getElem?_set_self hil], ?_⟩
      have qx : RV ⟨X.K, ca⟩ (upd G' b (excO (ca x.cls) dd' b)) (upd H' b (excO (ca x.cls) dd' b)) (upd G' b (excO (ca x.cls) dd' b)) (upd H' b (excO (ca x.cls) dd' b)) (.ref b) (.exn x) := by
        refine ⟨b, dd', rfl, upd_same, ?_⟩
        cases hpl : x.place with
        | none => rw [hpl] at hp; exact hp
        | some pl =>
          rw [hpl] at hp
          obtain ⟨d1, q1, q2⟩ := hp
          exact ⟨d1, q1, m.g _ _ q2⟩
      obtain ⟨rep2, en2⟩ := rep_take j rep1 en1 (Nx.refl rep1.gh) qx
      have rep3 := rep2.set (i := i) (s := .no) (o := none) rfl trivial
      have en4 := ent_no i none en2
      have e0 : vw none z.n S = .ok (S.take d.n) := by rw [sh.n]; rfl
      have hag : ∀ p ∈ z.kept, agr p.1 σ (((σ.set i (some (.ref b))).set j (some (.ref b))).set i none) := fun p hp' => by
        have hk1 : p.1 ∈ d.ks := by rw [← sh.ks]; exact List.mem_map.mpr ⟨p, hp', rfl⟩
        obtain ⟨u1, u2⟩ := hki _ hk1
        show (((σ.set i (some (.ref b))).set j (some (.ref b))).set i none)[p.1]? = σ[p.1]?
        rw [List.getElem?_set_ne (Ne.symm u1), List.getElem?_set_ne (Ne.symm u2), List.getElem?_set_ne (Ne.symm u1)]
      have hfin := R3.step zo e0 rep3 en4 hag (by
        have := R.slen
        simp only [List.length_set, List.length_take]
        rw [sh.n] at *
        omega) (by
        refine List.all_eq_true.mpr fun s hs => ?_
        have nh := R.nh
        rw [sh.n] at nh
        have key : ∀ (l : Env) (i : Nat) (s0 : Sl), notHal s0 = true → l.all notHal = true → (l.set i s0).all notHal = true := fun l i s0 h0 hl => List.all_eq_true.mpr fun s hs => by
          rcases List.mem_or_eq_of_mem_set hs with q | q
          · exact List.all_eq_true.mp hl s q
          · rw [q]; exact h0
        exact List.all_eq_true.mp (key _ _ _ rfl (key _ _ _ rfl (key _ _ _ rfl nh))) s hs)
      rw [sh.n] at hfin
      exact nx _ _ _ hfin
/-- the same with a list of our own, lent -/
theorem zj_tryL (hv k i j l : Nat) {h m n y lx : Str} {pl0 : Pos} {kl : Nat} {f : Int → List PyData → PyData → Rs (List PyData)} {p apos cpos epos np py pn pa pos pos' : Pos} {pl : Sem Bool} (T : EX X.K X.mg ca) (M : MetP X.prog X.w X.K X.mg X.base ca m kl f) (hr : Room kl X.A) (hv' : ∀ (pn : List (Addr × Obj)) (xe : Value → Shared → Prop), PE (X.tr pn xe) (.Name h p) (tVar hv)) (hm : (hv, k) ∈ d.vw) (he : ∀ (pn : List (Addr × Obj)) (xe : Value → Shared → Prop), PE (X.tr pn xe) (.Name lx pl0) (tVar l)) (hll : l < d.n)
    (hN : X.N.Nodup) (hi : X.N[i]? = some n) (hj : X.N[j]? = some y) (hln : X.env.kindOf n = some .local) (hly : X.env.kindOf y = some .local) (hki : ∀ q ∈ d.ks, q ≠ i ∧ q ≠ j)
    (hl : ∀ a b : V, List.lookup m [(("many" : Str), a), (("standing" : Str), b)] = none := by intro _ _; rfl)
    (h1 : (n == ("__debug__" : Str)) = false := by decide) (h2 : (n == ("__classdict__" : Str)) = false := by decide) (hg : Gl X "WallError" := by rfl) (hex : X.ex = [] := by rfl) (hs : X.stack = X.env :: X.outer := by rfl) (hf : X.env.frame = some X.env.locals := by rfl) (hsw : swapsWith (.Name n pn) (some (.Name y py)) pa.line X.env = pure false := by rfl)
    (hst : starEach [.Name lx pl0] X.env = (false, eval (.Name lx pl0) X.env) :: starEach [] X.env := by rfl) (hpl : (backTo cpos (starEach [] X.env)).any (·.1) = false := by rfl)
    (ht : eval (.Call (.Attribute (.Name h p) m apos) [.Name lx pl0] [] cpos) X.env = (do
      let ov ← eval (.Name h p) X.env
      standAt apos.atName
      let (g, first) ← holding [ov] (getMethod ov m pl)
      callWith cpos g first (backTo cpos (starEach [.Name lx pl0] X.env)) (backToKw cpos (keywordEach [] X.env))) := by rfl) (hsw2 : swapsWith (.Call (.Attribute (.Name h p) m apos) [.Name lx pl0] [] cpos) none epos.line X.env = pure false := by rfl) :
    JZ1 ca X d (.Try [.Expr (.Call (.Attribute (.Name h p) m apos) [.Name lx pl0] [] cpos) epos] [.ExceptHandler (some (.Name "WallError" np)) (some n) [.Assign [.Name y py] (.Name n pn) pa] pos'] [] [] pos)
      (fun D σ H => (tDrop (tMetT (ca 6) m (spP ⟨X.K, ca⟩ f) (WE (wKeep X.K (.ref (ca 0)) i (tAsg (tVar i) (gName j)) D)) (tVar hv) (tCons (tVar l) tNil))) D σ H) (zTryL d.n k i j l f) := by
  obtain ⟨fa, fd, ps, hc, hme, F, hb⟩ := M.ex
  have c := T.cl 0 (by decide)
  have vis : ∀ (a : Addr) (pn' : List (Addr × Obj)), PE (X.suite a pn') (.Name n pn) (tVar i) := fun a pn' => pe_var (X := X.suite a pn') hi (.inl hln) h1 h2
  refine ⟨ps_try_keep hex hs hf hN hi hln ⟨hg, by decide, .inl c.g⟩ (fun W pn xe tk po => pss_one (ps_expr (pe_metT (X := X.tr pn xe) (pl := pl) (hv' pn xe) hc hme F hr hb (fun σ => passAt tk σ) (pa_cons (he pn xe) pa_nil hst) hst hpl ht) hsw2)) (fun a pn' => pss_one (ps_set (X := X.suite a pn') (i := j) hN hj (.inl hly) (vis a pn') hsw (.inr hly))), fun z zo sh G H S σ R hns her D nx rt => ?_⟩
  obtain ⟨v, w1, w2⟩ := sh.vw _ hm
  unfold zTryL at hns her nx
  cases hs : S[d.n + k]? with
  | none => rw [hs] at hns; exact absurd rfl hns
  | some s =>
  cases s with
  | no => rw [hs] at hns; exact absurd rfl hns
  | sh d => rw [hs] at hns; exact absurd rfl hns
  | ol d => rw [hs] at hns; exact absurd rfl hns
  | od d => rw [hs] at hns; exact absurd rfl hns
  | exn d => rw [hs] at hns; exact absurd rfl hns
  | hal mm ds =>
  rw [hs] at hns her nx
  have hs' := hs
  rw [← sh.n] at hs'
  cases hls : S[l]? with
  | none => rw [hls] at hns; exact absurd rfl hns
  | some s =>
  cases s with
  | no => rw [hls] at hns; exact absurd rfl hns
  | sh d => rw [hls] at hns; exact absurd rfl hns
  | hal _ _ => rw [hls] at hns; exact absurd rfl hns
  | od d => rw [hls] at hns; exact absurd rfl hns
  | exn d => rw [hls] at hns; exact absurd rfl hns
  | ol ys =>
    rw [hls] at hns her nx
    obtain ⟨a, dx, q, rfl, ga, ha, qd⟩ := R.hall hs' w2
    obtain ⟨ol, el, la, xs, rfl, gl, hl1, ql⟩ := R.rep.sl l _ hls
    have el' : σ[l]? = some (some (.ref la)) := by rw [← up_low (z := z) (by rw [R.len, sh.n]; exact hll)]; exact el
    have hns : tryK d.n k i j S mm (f mm ds (.list ys)) ≠ .stuck := hns
    have nx : ∀ S', tryK d.n k i j S mm (f mm ds (.list ys)) = .ok (.nx S') → ∀ G' H' σ', RZ ⟨X.K, ca⟩ z S' G' H' σ' → D.nx σ' H' := nx
    have hne : a ≠ la := fun w => by rw [w, hl1] at ha; cases ha
    have x : Ex G (upd G la (.lst xs)) := Ex.new gl
    have xh : Ex (upd G la (.lst xs)) H := fun b o hb => by
      by_cases hb1 : b = la
      · rw [hb1, upd_same] at hb; cases hb; rw [hb1]; exact hl1
      · rw [upd_ne hb1] at hb; exact R.rep.gh b o hb
    refine ⟨.ref a, R.kp _ w1, a, dx, _, rfl, ha, hl _ _, ?_⟩
    refine (⟨.ref la, el', ?_⟩ : ∃ v, σ[l]? = some (some v) ∧ tNil σ H fun vs H2 => spP ⟨X.K, ca⟩ f (.ref a :: (v :: vs)) H2 (fun _ H1 => D.nx σ H1) (fun cls dd H => wKeep X.K (.ref (ca 0)) i (tAsg (tVar i) (gName j)) D cls dd σ H))
    show spP ⟨X.K, ca⟩ f [.ref a, .ref la] H (fun _ H1 => D.nx σ H1) (fun cls dd H => wKeep X.K (.ref (ca 0)) i (tAsg (tVar i) (gName j)) D cls dd σ H)
    refine ⟨upd G la (.lst xs), a, dx, q, mm, ds, .ref la, .list ys, rfl, xh, by rw [upd_ne hne]; exact ga, ha, Dp.ex x qd, .lst (.inl (.inl upd_same)) (DpAll.ex x ql), fun w => hns (by rw [w]; rfl), fun ds' e4 G' H' p' n' g' hp' q' => ?_, fun x ex G' H' cl dd' n0 xr => ?_⟩
    · obtain ⟨gp', n2⟩ := lend_back gl n'
      rw [e4] at hns nx
      have hf : lfreeAll ds' = true := Classical.byContradiction fun hc => hns (if_neg hc)
      have hpl : p' ≠ la := fun w => by rw [w, hl1] at hp'; cases hp'
      refine nx _ (if_pos hf) (rmH G' la) _ σ ?_
      rw [← sh.n]
      exact R.made zo hs' w2 ga ⟨_, ha⟩ n2 (by rw [rmH_ne hne]; exact g') (dpl_rm gp' hpl hf q')
    · obtain ⟨gp', n2⟩ := lend_back gl n0
      have xr' : XR ⟨X.K, ca⟩ x cl dd' (rmH G' la) := by
        obtain ⟨x1, x2⟩ := xr
        refine ⟨x1, ?_⟩
        cases hpl : x.place with
        | none => rw [hpl] at x2; exact x2
        | some pl =>
          rw [hpl] at x2
          obtain ⟨d, y1, y2⟩ := x2
          have hne : d ≠ la := fun z => by rw [z, gp'] at y2; cases y2
          exact ⟨d, y1, by rw [rmH_ne hne]; exact y2⟩
      clear xr
      revert n2 xr'
      generalize rmH G' la = G' at *
      intro n' xr
      have hns0 := hns
      rw [ex] at hns0
      have hx : eOk x.cls ∧ i < d.n ∧ j < d.n := Classical.byContradiction fun hc => hns0 (if_neg hc)
      have eF : tryK d.n k i j S mm (f mm ds (.list ys)) = .ok (.nx ((((S.take d.n).set i .no).set j (.exn x)).set i .no ++ S.drop d.n)) := by
        rw [ex]
        exact if_pos hx
      have nx := nx _ eF
      have R1 := R
      obtain ⟨rfl, hp⟩ := xr
      have R2 := R1.nx n'
      refine ⟨T.exm hx.1, _, rfl, fun b hb' => ?_⟩
      have gb : G' b = none := n'.gh.back hb'
      have m : Nx G' H' (upd G' b (excO (ca x.cls) dd' b)) (upd H' b (excO (ca x.cls) dd' b)) := Nx.new n'.gh hb'
      have R3 := R2.nx m
      have low3 := R3.low
      rw [sh.n] at low3
      have en3 : Ent (upd G' b (excO (ca x.cls) dd' b)) (notOwn (upd H' b (excO (ca x.cls) dd' b)) (S.take d.n) σ) _ _ (S.take d.n) σ := ent_here low3
      have rep1 : Rep ⟨X.K, ca⟩ _ _ ((S.take d.n).set i .no) (σ.set i (some (.ref b))) := low3.set rfl trivial
      have en1 := ent_no i (some (.ref b)) en3
      have hil : i < σ.length := by rw [R.len, sh.n]; exact hx.2.1
      refine ⟨.ref b, by rw [List.getElem?_set_self hil], ?_⟩
      have qx : RV ⟨X.K, ca⟩ (upd G' b (excO (ca x.cls) dd' b)) (upd H' b (excO (ca x.cls) dd' b)) (upd G' b (excO (ca x.cls) dd' b)) (upd H' b (excO (ca x.cls) dd' b)) (.ref b) (.exn x) := by
        refine ⟨b, dd', rfl, upd_same, ?_⟩
        cases hpl : x.place with
        | none => rw [hpl] at hp; exact hp
        | some pl =>
          rw [hpl] at hp
          obtain ⟨d1, q1, q2⟩ := hp
          exact ⟨d1, q1, m.g _ _ q2⟩
      obtain ⟨rep2, en2⟩ := rep_take j rep1 en1 (Nx.refl rep1.gh) qx
      have rep3 := rep2.set (i := i) (s := .no) (o := none) rfl trivial
      have en4 := ent_no i none en2
      have e0 : vw none z.n S = .ok (S.take d.n) := by rw [sh.n]; rfl
      have hag : ∀ p ∈ z.kept, agr p.1 σ (((σ.set i (some (.ref b))).set j (some (.ref b))).set i none) := fun p hp' => by
        have hk1 : p.1 ∈ d.ks := by rw [← sh.ks]; exact List.mem_map.mpr ⟨p, hp', rfl⟩
        obtain ⟨u1, u2⟩ := hki _ hk1
        show (((σ.set i (some (.ref b))).set j (some (.ref b))).set i none)[p.1]? = σ[p.1]?
        rw [List.getElem?_set_ne (Ne.symm u1), List.getElem?_set_ne (Ne.symm u2), List.getElem?_set_ne (Ne.symm u1)]
      have hfin := R3.step zo e0 rep3 en4 hag (by
        have := R.slen
        simp only [List.length_set, List.length_take]
        rw [sh.n] at *
        omega) (by
        refine List.all_eq_true.mpr fun s hs => ?_
        have nh := R.nh
        rw [sh.n] at nh
        have key : ∀ (l : Env) (i : Nat) (s0 : Sl), notHal s0 = true → l.all notHal = true → (l.set i s0).all notHal = true := fun l i s0 h0 hl => List.all_eq_true.mpr fun s hs => by
          rcases List.mem_or_eq_of_mem_set hs with q | q
          · exact List.all_eq_true.mp hl s q
          · rw [q]; exact h0
        exact List.all_eq_true.mp (key _ _ _ rfl (key _ _ _ rfl (key _ _ _ rfl nh))) s hs)
      rw [sh.n] at hfin
      exact nx _ _ _ hfin
end
end PF

namespace PF
open PySem L2

/-! ### targets leave variables as they are -/
def KeepsGs (i : Nat) (g : TGs) : Prop := ∀ (σ0 : L2.St) (xs : List V) (Q Q' : L2.St → Hp → Prop) (σ : L2.St) (H : Hp), agr i σ0 σ → (∀ σ H, agr i σ0 σ → Q σ H = Q' σ H) → g xs σ H Q = g xs σ H Q'
theorem keepsG_tup {K : PySem.W.Frag} {i n : Nat} {t : TGs} (h : KeepsGs i t) : KeepsG i (gTup K n t) := fun σ0 x Q Q' σ H a e => by
  show (∃ b xs, x = V.ref b ∧ SqT K H b xs ∧ xs.length = n ∧ t xs σ H Q) = (∃ b xs, x = V.ref b ∧ SqT K H b xs ∧ xs.length = n ∧ t xs σ H Q')
  congr 1
  funext b
  congr 1
  funext xs
  rw [h σ0 xs Q Q' σ H a e]
theorem keepsG_all {g : TG} : ∀ {ks : List Nat}, (∀ i ∈ ks, KeepsG i g) → ∀ {x : V} {Q : L2.St → Hp → Prop} {σ : L2.St} {H : Hp}, g x σ H (fun σ' H' => (∀ i ∈ ks, agr i σ σ') → Q σ' H') → g x σ H Q
  | [], _, x, Q, σ, H, h => by
    have e1 : (fun σ' H' => (∀ i ∈ ([] : List Nat), agr i σ σ') → Q σ' H') = Q := by
      funext σ' H'
      exact propext ⟨fun q => q (fun i h => nomatch h), fun q _ => q⟩
    rw [e1] at h
    exact h
  | i :: ks, hk, x, Q, σ, H, h => by
    refine (hk i List.mem_cons_self).use (keepsG_all (ks := ks) (fun j hj => hk j (List.mem_cons_of_mem _ hj)) ?_)
    have e1 : (fun σ' H' => (∀ j ∈ ks, agr j σ σ') → agr i σ σ' → Q σ' H') = fun σ' H' => (∀ j ∈ i :: ks, agr j σ σ') → Q σ' H' := by
      funext σ' H'
      refine propext ⟨fun q a => q (fun j hj => a j (List.mem_cons_of_mem _ hj)) (a i List.mem_cons_self), fun q a b => q fun j hj => ?_⟩
      rcases List.mem_cons.mp hj with rfl | hj
      · exact b
      · exact a j hj
    rw [e1]
    exact h
/-! ### loops -/
def forZ (n : Nat) (T : Tgt) (B : Env → Rs OutZ) : List PyData → Env → Rs OutZ
  | [], S => .ok (.nx S)
  | d :: ds, S => match T d (S.take n) with
    | some ρ => if ρ.all notHal = true ∧ ρ.length = n then afterZ (B (ρ ++ S.drop n)) (forZ n T B ds) else .stuck
    | none => .stuck
def zFor (n : Nat) (F : Env → Rs (List PyData)) (T : Tgt) (B : Env → Rs OutZ) : Env → Rs OutZ := fun S => F (S.take n) >>= fun ds => forZ n T B ds S
def Zp.over (z : Zp) (G : Hp) : Zp := { z with G0 := G, H0 := ovl z.H0 G }
section
variable {c : Pc} {z : Zp} {S : Env} {G H G' H' : Hp} {σ : L2.St}
theorem RZ.up' (R : RZ c z S G H σ) : RZ c (z.over G) S G H σ := ⟨R.rep, ent_up c R.en.nx (Ex.refl _) R.rep R.en, R.len, R.nh, R.kp, R.sd⟩
theorem RZ.down (n : Nx z.G0 z.H0 G H) (R : RZ c (z.over G) S G' H' σ) : RZ c z S G' H' σ := ⟨R.rep, ent_down n R.en, R.len, R.nh, R.kp, R.sd⟩
theorem Zp.Ok.over (zo : z.Ok) (hg : ∀ v ∈ z.gv, ∀ a, v = .ref a → G a = none) : (z.over G).Ok := ⟨zo.nd, fun v hv => by
  obtain ⟨a, e, h⟩ := zo.rf v hv
  exact ⟨a, e, (ovl_none (hg v hv a e)).trans h⟩, zo.sd⟩
theorem Sh.over {d : Zd} (sh : Sh d z) : Sh d (z.over G) := ⟨sh.n, sh.ks, sh.vw, sh.ng, sh.lw⟩
theorem RZ.gv0 (R : RZ c z S G H σ) (hs : ∀ k s, S[z.n + k]? = some s → spc s = true) : ∀ v ∈ z.gv, ∀ a, v = .ref a → G a = none := fun v hv a e => by
  obtain ⟨k, hk, hk2⟩ := List.getElem_of_mem hv
  have hkk : z.gv[k]? = some v := by rw [List.getElem?_eq_getElem hk, hk2]
  have hl := R.slen
  have e1 : S[z.n + k]? = some (S[z.n + k]'(by omega)) := List.getElem?_eq_getElem (by omega)
  obtain ⟨o, e2, q⟩ := R.rep.sl _ _ e1
  rw [up_high R, hkk] at e2
  cases e2
  obtain ⟨p, u, e3, _, g, _⟩ := spc_at (hs k _ e1) q
  subst e
  cases e3
  exact g
end
def allSp (n : Nat) (S : Env) : Bool := (S.drop n).all spc
theorem allSp_at {n : Nat} {S : Env} (h : allSp n S = true) : ∀ (k : Nat) s, S[n + k]? = some s → spc s = true := fun k s e => by
  have : (S.drop n)[k]? = some s := by rw [List.getElem?_drop]; exact e
  exact List.all_eq_true.mp h s (List.mem_of_getElem? this)
def zForA (n : Nat) (F : Env → Rs (List PyData)) (T : Tgt) (B : Env → Rs OutZ) : Env → Rs OutZ := fun S => if allSp n S = true then zFor n F T B S else .stuck
section
variable {ca : Nat → Addr} {X : Cx} {E : XK} {d : Zd}
theorem zj_for {tg iter : Expr} {body : List Stmt} {wi : TI} {g : TG} {tb : TS} {F : Env → Rs (List PyData)} {T : Tgt} {L : List Nat} {B : Env → Rs OutZ} {pos : Pos} (hi : JI ca X E false tg iter wi F) (hg : JG ca X tg g T L) (hk : ∀ i ∈ d.ks, KeepsG i g) (hb : JZ ca X d body tb B)
    (hp : PassesOwn (model X.prog X.w) X.A X.env X.xe) (hc : X.calm = true) (hs : ∀ x, foldedSetIterable iter X.env x = pure x := by intro _; rfl) : JZ1 ca X d (.For tg iter body [] pos) (tFor wi g tb) (zForA d.n F T B) := by
  refine ⟨ps_for hp hc hi.pi hg.pg hb.ps hs, fun z zo sh G H S σ R hns her D nx rt => ?_⟩
  unfold zForA at hns her nx rt
  by_cases hsp : allSp d.n S = true
  case neg => rw [if_neg hsp] at hns; exact absurd rfl hns
  rw [if_pos hsp] at hns her nx rt
  have low := R.low
  rw [sh.n] at low
  refine hi.sem G H (S.take d.n) σ low (fun w => hns (by unfold zFor; rw [w]; rfl)) _ (fun ds ed G' H' J n wd => ?_) fun x e => absurd (by unfold zFor; rw [e]; rfl) (her x)
  have e0 : zFor d.n F T B S = forZ d.n T B ds S := by unfold zFor; rw [ed]; rfl
  rw [e0] at hns her nx rt
  generalize hR : forZ d.n T B ds S = R0 at hns her nx rt
  have R1 := R.nx n
  have n0 : Nx z.G0 z.H0 G' H' := R1.en.nx
  have zo' : (z.over G').Ok := zo.over (R1.gv0 fun k s e => allSp_at hsp k s (by rw [← sh.n]; exact e))
  obtain ⟨Gd, hgd, goes, stops, ylds⟩ := wd.ex
  refine ⟨fun i m σ1 H1 => m = ds.length - i ∧ i ≤ ds.length ∧ ∃ G1 S1, RZ ⟨X.K, ca⟩ (z.over G') S1 G1 H1 σ1 ∧ forZ d.n T B (ds.drop i) S1 = R0,
    ⟨ds.length, rfl, Nat.zero_le _, G', S, R1.up', hR⟩, fun i m σ1 H1 h => ?_⟩
  obtain ⟨rfl, hil, G1, S1, Q1, hf⟩ := h
  have gd := hgd G1 H1 Q1.en.nx.g Q1.rep.gh (fun z => nomatch z)
  by_cases hlt : i < ds.length
  · refine .inr ⟨goes i H1 hlt gd, ?_⟩
    have hd : ds[i]? = some ds[i] := List.getElem?_eq_getElem hlt
    rw [List.drop_eq_getElem_cons hlt] at hf
    unfold forZ at hf
    cases ht : T ds[i] (S1.take d.n) with
    | none => rw [ht] at hf; exact absurd hf.symm hns
    | some ρ2 =>
      rw [ht] at hf
      have hf : (if ρ2.all notHal = true ∧ ρ2.length = d.n then afterZ (B (ρ2 ++ S1.drop d.n)) (forZ d.n T B (ds.drop (i + 1))) else .stuck) = R0 := hf
      by_cases hok : ρ2.all notHal = true ∧ ρ2.length = d.n
      case neg => rw [if_neg hok] at hf; exact absurd hf.symm hns
      rw [if_pos hok] at hf
      refine ⟨fun σ2 H2 => ∃ G2 S2, RZ ⟨X.K, ca⟩ (z.over G') S2 G2 H2 σ2 ∧ forZ d.n T B (ds.drop (i + 1)) S2 = R0, fun σ2 H2 ⟨G2, S2, a1, a2⟩ => ⟨ds.length - (i + 1), by omega, rfl, hlt, G2, S2, a1, a2⟩, fun x H2 hy => ?_⟩
      obtain ⟨G2, n2, q2⟩ := ylds i G1 H1 x H2 _ hd gd Q1.en.nx.g Q1.rep.gh hy
      have Q2 := Q1.nx n2
      have low2 : Rep ⟨X.K, ca⟩ G2 H2 (S1.take d.n) σ1 := by
        have := Q2.low
        rwa [show (z.over G').n = d.n from sh.n] at this
      refine keepsG_all hk ?_
      refine hg.sem G2 H2 (S1.take d.n) σ1 x _ ρ2 low2 q2 ht _ fun σ2 r3 o _ ag => ?_
      have Q3 : RZ ⟨X.K, ca⟩ (z.over G') (ρ2 ++ S1.drop d.n) G2 H2 σ2 := by
        have := Q2.step (o := none) zo' (ρ := S1.take d.n) (ρ' := ρ2) (by rw [show (z.over G').n = d.n from sh.n]; rfl) r3 (ent_tgt (ent_here low2) o) (fun p hp' => ag p.1 (by rw [← sh.ks]; exact List.mem_map.mpr ⟨p, hp', rfl⟩)) (by rw [show (z.over G').n = d.n from sh.n]; exact hok.2) hok.1
        rwa [show (z.over G').n = d.n from sh.n] at this
      refine hb.sem (z.over G') zo' sh.over G2 H2 _ σ2 Q3 (fun w => hns (by rw [← hf, w]; rfl)) (fun y w => her y (by rw [← hf, w]; rfl)) _ (fun S' e G3 H3 σ3 R3 => ⟨G3, S', R3, ?_⟩) fun d' S' e G3 H3 σ3 v R3 q3 => rt d' S' (by rw [← hf, e]; rfl) G3 H3 σ3 v (R3.down n0) q3
      rw [← hf, e]
      rfl
  · have hi2 : i = ds.length := by omega
    subst hi2
    rw [List.drop_length] at hf
    exact .inl ⟨stops H1 gd, nx S1 hf.symm G1 H1 σ1 (Q1.down n0)⟩
end
end PF

namespace PF
open PySem L2

theorem keepsGs_nil {i : Nat} : KeepsGs i gNil := fun σ0 xs Q Q' σ H a e => by
  show (xs = [] ∧ Q σ H) = (xs = [] ∧ Q' σ H)
  rw [e σ H a]
theorem keepsGs_cons {i : Nat} {t : TG} {u : TGs} (h : KeepsG i t) (k : KeepsGs i u) : KeepsGs i (gCons t u) := fun σ0 xs Q Q' σ H a e => by
  show (∃ v r, xs = v :: r ∧ t v σ H fun σ' H' => u r σ' H' Q) = (∃ v r, xs = v :: r ∧ t v σ H fun σ' H' => u r σ' H' Q')
  congr 1
  funext v
  congr 1
  funext r
  rw [h σ0 v _ (fun σ' H' => u r σ' H' Q') σ H a fun σ1 H1 a1 => k σ0 r Q Q' σ1 H1 a1 e]
/-! ### a hall is made -/
def spHI (c : Pc) : Sp := fun vs H Q _ => ∃ (a dx : Addr) (m : Int), vs = [.ref a, .int m] ∧ H a = some (.ins (c.ca 6) dx []) ∧
  ∀ p, upd H a (.ins (c.ca 6) dx [("many", .int m)]) p = none → Q .non (upd (upd (upd H a (.ins (c.ca 6) dx [("many", .int m)])) p (.lst [])) a (halO (c.ca 6) dx m p))
theorem ok_hini {P : Program} {w : World} {K : PySem.W.Frag} {mg : Str → Option Value} {base : Heap} {ca : Nat → Addr} {st : Stmt} {f : Addr} {fd : FuncData} (T : HK K ca) (F : Fun K "__init__" "Hall.__init__" st f fd) (S : FnScope ["self", "ways"] ["self", "ways"] (defScope st))
    (ho : ∀ (cdv : Value) (A : Around) (outer : List PySem.Env) (s : Shared) (H : Hp) (E : XK), PSs (cxOf (L2.CX P w) P w K mg base ["self", "ways"] "Hall.__init__" (defScope st) f cdv A outer s H E) (defBody st) (tSeq (sFld K (tVar 0) (tVar 1) "many") (sFld K (tVar 0) (tLst tNil) "standing"))) :
    FnOk P w K mg base (L2.CX P w) 1 f fd ["self", "ways"] (spHI ⟨K, ca⟩) := by
  refine F.okX S (fun vs H Q E h => ?_) (fun cdv A outer s H vs Q E hr h => ⟨_, ho cdv A outer s H E, ?_⟩)
  · obtain ⟨a, dx, m, rfl, _⟩ := h
    rfl
  · obtain ⟨a, dx, m, rfl, ha, k⟩ := h
    refine ⟨.int m, rfl, .ref a, rfl, a, ca 6, dx, [], rfl, ha, T.c, T.m, (by show 0 < 1000; decide), ?_⟩
    refine ⟨by show 0 ≤ sizeLine; exact Nat.zero_le _, fun p hp => ?_⟩
    have hpa : a ≠ p := fun z => by
      have hp : upd H a (.ins (ca 6) dx [("many", .int m)]) p = none := hp
      rw [← z, upd_same] at hp
      cases hp
    refine ⟨.ref a, rfl, a, ca 6, dx, [("many", .int m)], rfl, ?_, T.c, T.s, (by show 1 < 1000; decide), ?_⟩
    · rw [upd_ne hpa]
      exact upd_same
    · exact k p hp
structure MakH (P : Program) (w : World) (K : PySem.W.Frag) (mg : Str → Option Value) (base : Heap) (ca : Nat → Addr) : Prop where
  ex : ∃ (f : Addr) (fd : FuncData) (ps : List Str), Mk K (ca 6) f ∧ FnOk P w K mg base (L2.CX P w) 1 f fd ps (spHI ⟨K, ca⟩) ∧ mg "Hall" = some (.ref (ca 6)) ∧ Binds K fd ps []
/-- what making one leaves -/
theorem made_hall {c : Pc} {E : XK} {G H : Hp} (gh : Ex G H) {m : Int} {Q : VK} (h : ∀ G' H' x dx p, Nx G H G' H' → H x = none → G' x = none → H' x = some (halO (c.ca 6) dx m p) → Dp c.K G' (.ref p) (.list []) → Q (.ref x) H') :
    ∀ x dx, H x = none → H dx = none → dx ≠ x → spHI c [.ref x, .int m] (upd (upd H dx (.own x)) x (.ins (c.ca 6) dx [])) (fun v H3 => v = .non ∧ Q (.ref x) H3) E := fun x dx hx hdx hne => by
  refine ⟨x, dx, m, rfl, upd_same, fun p hp => ⟨rfl, ?_⟩⟩
  have hpx : p ≠ x := fun z => by rw [z, upd_same] at hp; cases hp
  rw [upd_ne hpx, upd_ne hpx] at hp
  have hpd : p ≠ dx := fun z => by rw [z, upd_same] at hp; cases hp
  rw [upd_ne hpd] at hp
  have gx := gh.back hx
  have gp := gh.back hp
  have gd := gh.back hdx
  have old : ∀ b o, H b = some o → (upd (upd (upd (upd (upd H dx (.own x)) x (.ins (c.ca 6) dx [])) x (.ins (c.ca 6) dx [("many", .int m)])) p (.lst [])) x (halO (c.ca 6) dx m p)) b = some o := fun b o hb => by
    have b1 : b ≠ x := fun z => by rw [z, hx] at hb; cases hb
    have b2 : b ≠ p := fun z => by rw [z, hp] at hb; cases hb
    have b3 : b ≠ dx := fun z => by rw [z, hdx] at hb; cases hb
    rw [upd_ne b1, upd_ne b2, upd_ne b1, upd_ne b1, upd_ne b3]
    exact hb
  refine h (upd G p (.lst [])) _ x dx p ⟨Ex.new gp, old, fun b o hb => ?_, fun b hb gb => ?_⟩ hx (by rw [upd_ne (Ne.symm hpx)]; exact gx) upd_same (.lst (.inl (.inl upd_same)) .nil)
  · by_cases hbp : b = p
    · rw [hbp, upd_same] at hb
      cases hb
      rw [hbp, upd_ne hpx, upd_same]
    · rw [upd_ne hbp] at hb
      exact old b o (gh b o hb)
  · have b2 : b ≠ p := fun z => hb (by rw [z]; exact hp)
    rw [upd_ne b2]
    exact .inl gb
/-! ### a law with two halls, two lists -/
def lawEnd : Rs OutZ → Rs Out
  | .ok (.rt d _) => .ok (.rt (.sh d))
  | _ => .stuck
def zLawE (n hi si : Nat) (F : Env → Rs OutZ) (m0 m1 : Int) (ρ : Env) : Rs Out := if ρ.all notHal = true ∧ ρ.length = n ∧ hi < n ∧ si < n ∧ hi ≠ si then lawEnd (F (((ρ.set hi .no).set si .no) ++ [.hal m0 [], .hal m1 [], .ol [], .ol []])) else .stuck
def zLaw (n hi si : Nat) (F0 F1 : Env → Rs PyData) (F : Env → Rs OutZ) : Env → Rs Out := fun ρ => F0 ρ >>= fun a => intOf a >>= fun m0 => F1 ρ >>= fun b => intOf b >>= fun m1 => zLawE n hi si F m0 m1 ρ
theorem rep_appO {c : Pc} {G H : Hp} {ρ : Env} {σ : L2.St} {s : Sl} {p : Addr} (r : Rep c G H ρ σ) (h : SlOk c G H s (some (.ref p))) (hn : ¬ HldA ρ σ p) : Rep c G H (ρ ++ [s]) (σ ++ [some (.ref p)]) := by
  have split : ∀ (i : Nat) u, (ρ ++ [s])[i]? = some u → (ρ[i]? = some u ∧ i < ρ.length ∧ (σ ++ [some (V.ref p)])[i]? = σ[i]?) ∨ (u = s ∧ i = ρ.length ∧ (σ ++ [some (V.ref p)])[i]? = some (some (.ref p))) := fun i u h => by
    by_cases hi : i < ρ.length
    · rw [List.getElem?_append_left hi] at h
      exact .inl ⟨h, hi, List.getElem?_append_left (by rw [← r.len]; exact hi)⟩
    · rw [List.getElem?_append_right (by omega)] at h
      have h0 : i - ρ.length = 0 := by
        have := (List.getElem?_eq_some_iff.mp h).1
        rw [List.length_singleton] at this
        omega
      rw [h0] at h
      cases h
      refine .inr ⟨rfl, by omega, ?_⟩
      rw [List.getElem?_append_right (by rw [← r.len]; omega), ← r.len, h0]
      rfl
  refine ⟨r.gh, by rw [List.length_append, List.length_append, r.len]; rfl, fun i u e => ?_, fun i j u u' q e1 e2 w1 w2 f1 f2 => ?_⟩
  · rcases split i u e with ⟨a, _, b⟩ | ⟨rfl, _, b⟩
    · obtain ⟨o', q1, q2⟩ := r.sl i u a
      exact ⟨o', b.trans q1, q2⟩
    · exact ⟨_, b, h⟩
  · rcases split i u e1 with ⟨a, l1, b⟩ | ⟨rfl, l1, b⟩
    · rcases split j u' e2 with ⟨a', l2, b'⟩ | ⟨rfl, l2, b'⟩
      · exact r.inj i j u u' q a a' w1 w2 (b.symm.trans f1) (b'.symm.trans f2)
      · rw [b'] at f2
        cases f2
        exact absurd ⟨i, u, a, w1, b.symm.trans f1⟩ hn
    · rcases split j u' e2 with ⟨a', l2, b'⟩ | ⟨rfl, l2, b'⟩
      · rw [b] at f1
        cases f1
        exact absurd ⟨j, u', a', w2, b'.symm.trans f2⟩ hn
      · omega
theorem hld_app {ρ : Env} {σ : L2.St} {s : Sl} {o : Option V} {a : Addr} (hl : ρ.length = σ.length) (h : HldA (ρ ++ [s]) (σ ++ [o]) a) : HldA ρ σ a ∨ (s.own = true ∧ o = some (.ref a)) := by
  obtain ⟨i, u, h1, h2, h3⟩ := h
  by_cases hi : i < ρ.length
  · rw [List.getElem?_append_left hi] at h1
    rw [List.getElem?_append_left (by omega)] at h3
    exact .inl ⟨i, u, h1, h2, h3⟩
  · rw [List.getElem?_append_right (by omega)] at h1
    rw [List.getElem?_append_right (by omega)] at h3
    have h0 : i - ρ.length = 0 := by
      have := (List.getElem?_eq_some_iff.mp h1).1
      rw [List.length_singleton] at this
      omega
    rw [h0] at h1
    rw [← hl, h0] at h3
    cases h1
    cases h3
    exact .inr ⟨h2, rfl⟩
theorem held_none {c : Pc} {G H : Hp} {ρ : Env} {σ : L2.St} (rep : Rep c G H ρ σ) {a : Addr} (ha : H a = none) : ¬ HldA ρ σ a := fun ⟨i, s, h1, h2, h3⟩ => by
  obtain ⟨o, e2, q⟩ := rep.sl i s h1
  rw [h3] at e2
  cases e2
  cases s with
  | no => cases h2
  | sh d => cases h2
  | exn x => cases h2
  | hal _ _ => cases h2
  | ol ds => obtain ⟨b, xs, z, _, hb, _⟩ := q; cases z; rw [ha] at hb; cases hb
  | od ds => obtain ⟨b, xs, z, _, hb, _⟩ := q; cases z; rw [ha] at hb; cases hb
end PF

namespace PF
open PySem L2

theorem all_set {l : Env} {i : Nat} {s : Sl} (h0 : notHal s = true) (hl : l.all notHal = true) : (l.set i s).all notHal = true := List.all_eq_true.mpr fun u hu => by
  rcases List.mem_or_eq_of_mem_set hu with q | q
  · exact List.all_eq_true.mp hl u q
  · rw [q]; exact h0
theorem ent_set {G0 H0 G H : Hp} {ρ : Env} {σ : L2.St} (en : Ent G0 H0 G H ρ σ) (i : Nat) (o : Option V) : Ent G0 H0 G H (ρ.set i .no) (σ.set i o) := ent_no i o en
theorem jps_law {ca : Nat → Addr} {X : Cx} {E : XK} (hi si n : Nat) {sA sB : Stmt} {e0 e1 : Expr} {rest : List Stmt} {te0 te1 : TE} {tr : TS} {F0 F1 : Env → Rs PyData} {FR : Env → Rs OutZ}
    (pA : PS X sA (tAsg (tTup (tCons (tMake (ca 6) (spHI ⟨X.K, ca⟩) [] E (tCons te0 tNil)) (tCons (tMake (ca 6) (spHI ⟨X.K, ca⟩) [] E (tCons te1 tNil)) tNil))) (gName hi)))
    (pB : PS X sB (tAsg (tLst (tCons (tLst tNil) (tCons (tLst tNil) tNil))) (gName si))) (h0 : JS ca X E e0 te0 F0) (h1 : JS ca X E e1 te1 F1) (hR : JZ ca X ⟨[hi, si], [], n, 4, some (hi, si)⟩ rest tr FR) :
    JPs ca X E (sA :: sB :: rest) (tSeq (tAsg (tTup (tCons (tMake (ca 6) (spHI ⟨X.K, ca⟩) [] E (tCons te0 tNil)) (tCons (tMake (ca 6) (spHI ⟨X.K, ca⟩) [] E (tCons te1 tNil)) tNil))) (gName hi)) (tSeq (tAsg (tLst (tCons (tLst tNil) (tCons (tLst tNil) tNil))) (gName si)) tr)) (zLaw n hi si F0 F1 FR) := by
  refine ⟨pss_cons pA (pss_cons pB hR.ps), fun G0 H0 G H ρ σ rep en hns D nx rt er => ?_⟩
  refine h0.sem.use (k := fun a => intOf a >>= fun m0 => F1 ρ >>= fun b => intOf b >>= fun m1 => zLawE n hi si FR m0 m1 ρ) rep hns (fun x e G' H' cl dd n => er x e G' H' cl dd (en.nx.trans n)) fun a ea e1 G1 H1 v n1 r1 q1 hk er1 => ?_
  obtain ⟨m0, rfl⟩ := intOf_ok hk
  have hv : v = .int m0 := Dp.int_v q1
  subst hv
  show ∀ x dx, H1 x = none → H1 dx = none → dx ≠ x → spHI ⟨X.K, ca⟩ [.ref x, .int m0] (upd (upd H1 dx (.own x)) x (.ins (ca 6) dx [])) _ E
  refine made_hall (c := ⟨X.K, ca⟩) (Q := fun y H1 => (tCons (tMake (ca 6) (spHI ⟨X.K, ca⟩) [] E (tCons te1 tNil)) tNil) σ H1 fun xs H2 => (y :: xs).length ≤ sizeLine ∧ ∀ p, H2 p = none → (gName hi) (.ref p) σ (upd H2 p (.tup (y :: xs))) (fun σ' H' => (tSeq (tAsg (tLst (tCons (tLst tNil) (tCons (tLst tNil) tNil))) (gName si)) tr) D σ' H')) r1.gh fun G2 H2 a0 dx0 p0 n2 f0 g0 ha0 q0 => ?_
  have n12 := n1.trans n2
  have r2 := r1.nx n2
  have hk : (F1 ρ >>= fun b => intOf b >>= fun m1 => zLawE n hi si FR m0 m1 ρ) ≠ Rs.stuck := hk
  have er1 : ErrP ⟨X.K, ca⟩ E G1 H1 (F1 ρ >>= fun b => intOf b >>= fun m1 => zLawE n hi si FR m0 m1 ρ) := fun x e G' H' cl dd n' => er x (e1.trans e) G' H' cl dd (en.nx.trans (n1.trans n'))
  refine h1.sem.use (k := fun b => intOf b >>= fun m1 => zLawE n hi si FR m0 m1 ρ) r2 hk (er1.go n2) fun b eb e2 G3 H3 v n3 r3 q3 hk2 er2 => ?_
  obtain ⟨m1, rfl⟩ := intOf_ok hk2
  have hv : v = .int m1 := Dp.int_v q3
  subst hv
  show ∀ x dx, H3 x = none → H3 dx = none → dx ≠ x → spHI ⟨X.K, ca⟩ [.ref x, .int m1] (upd (upd H3 dx (.own x)) x (.ins (ca 6) dx [])) _ E
  refine made_hall (c := ⟨X.K, ca⟩) (Q := fun y H1 => ([V.ref a0, y]).length ≤ sizeLine ∧ ∀ p, H1 p = none → (gName hi) (.ref p) σ (upd H1 p (.tup [V.ref a0, y])) (fun σ' H' => (tSeq (tAsg (tLst (tCons (tLst tNil) (tCons (tLst tNil) tNil))) (gName si)) tr) D σ' H')) r3.gh fun G4 H4 a1 dx1 p1 n4 f1 g1 ha1 q4 => ?_
  refine ⟨by show 2 ≤ sizeLine; exact lim_le (by decide), fun T hT => ?_⟩
  refine ⟨by show 0 ≤ sizeLine; exact Nat.zero_le _, fun l0 hl0 => ⟨by show 0 ≤ sizeLine; exact Nat.zero_le _, fun l1 hl1 => ⟨by show 2 ≤ sizeLine; exact lim_le (by decide), fun L hL => ?_⟩⟩⟩
  show tr D ((σ.set hi (some (.ref T))).set si (some (.ref L))) (upd (upd (upd (upd H4 T (.tup [.ref a0, .ref a1])) l0 (.lst [])) l1 (.lst [])) L (.lst [.ref l0, .ref l1]))
  -- where all of it stands
  have n34 := n3.trans n4
  have n24 := n2.trans n34
  have ha0' : H4 a0 = some (halO (ca 6) dx0 m0 p0) := n34.h _ _ ha0
  have g0' : G4 a0 = none := hid_hal n34 g0 ha0
  have q0' : Dp X.K G4 (.ref p0) (.list []) := Dp.ex n34.g q0
  have gh4 : Ex G4 H4 := n4.gh
  have dl1 : l1 ≠ l0 := fun z => by rw [z, upd_same] at hl1; cases hl1
  have dL1 : L ≠ l1 := fun z => by rw [z, upd_same] at hL; cases hL
  rw [upd_ne dL1] at hL
  have dL0 : L ≠ l0 := fun z => by rw [z, upd_same] at hL; cases hL
  rw [upd_ne dL0] at hL
  have dLT : L ≠ T := fun z => by rw [z, upd_same] at hL; cases hL
  rw [upd_ne dLT] at hL
  rw [upd_ne dl1] at hl1
  have dl1T : l1 ≠ T := fun z => by rw [z, upd_same] at hl1; cases hl1
  rw [upd_ne dl1T] at hl1
  have dl0T : l0 ≠ T := fun z => by rw [z, upd_same] at hl0; cases hl0
  rw [upd_ne dl0T] at hl0
  generalize hH : upd (upd (upd (upd H4 T (.tup [.ref a0, .ref a1])) l0 (.lst [])) l1 (.lst [])) L (.lst [.ref l0, .ref l1]) = H8
  have xT : H8 T = some (.tup [.ref a0, .ref a1]) := by rw [← hH, upd_ne (Ne.symm dLT), upd_ne (Ne.symm dl1T), upd_ne (Ne.symm dl0T)]; exact upd_same
  have x0 : H8 l0 = some (.lst []) := by rw [← hH, upd_ne (Ne.symm dL0), upd_ne (Ne.symm dl1)]; exact upd_same
  have x1 : H8 l1 = some (.lst []) := by rw [← hH, upd_ne (Ne.symm dL1)]; exact upd_same
  have xL : H8 L = some (.lst [.ref l0, .ref l1]) := by rw [← hH]; exact upd_same
  have x48 : Ex H4 H8 := fun b o hb => by
    have t1 : b ≠ T := fun z => by rw [z, hT] at hb; cases hb
    have t2 : b ≠ l0 := fun z => by rw [z, hl0] at hb; cases hb
    have t3 : b ≠ l1 := fun z => by rw [z, hl1] at hb; cases hb
    have t4 : b ≠ L := fun z => by rw [z, hL] at hb; cases hb
    rw [← hH, upd_ne t4, upd_ne t3, upd_ne t2, upd_ne t1]
    exact hb
  have n8 : Nx G4 H4 G4 H8 := ⟨Ex.refl _, x48, gh4.trans x48, fun _ _ g => .inl g⟩
  clear hH
  have n18 := n24.trans n8
  have en8 := en.go (n1.trans n18)
  have r8 := (r1.nx n18)
  have gl0 : G4 l0 = none := gh4.back hl0
  have gl1 : G4 l1 = none := gh4.back hl1
  have h24 : ∀ b, H4 b = none → H b = none := fun b hb => (n1.trans n24).h.back hb
  have h0a0 : H0 a0 = none := en.nx.h.back (n1.h.back f0)
  have h0a1 : H0 a1 = none := en.nx.h.back ((n1.trans (n2.trans n3)).h.back f1)
  have h0l0 : H0 l0 = none := en.nx.h.back (h24 l0 hl0)
  have h0l1 : H0 l1 = none := en.nx.h.back (h24 l1 hl1)
  have da : a0 ≠ a1 := fun z => by
    have := n3.h _ _ ha0
    rw [z, f1] at this
    cases this
  have ne4 : ∀ {b : Addr} {o : HO} {l : Addr}, H4 b = some o → H4 l = none → b ≠ l := fun h1 h2 z => by rw [z, h2] at h1; cases h1
  have hk3 : (zLawE n hi si FR m0 m1 ρ) ≠ Rs.stuck := hk2
  have e3 : zLaw n hi si F0 F1 FR ρ = (zLawE n hi si FR m0 m1 ρ) := e1.trans e2
  by_cases hc : ρ.all notHal = true ∧ ρ.length = n ∧ hi < n ∧ si < n ∧ hi ≠ si
  case neg => exact absurd (if_neg hc) hk3
  have hE : zLawE n hi si FR m0 m1 ρ = lawEnd (FR (((ρ.set hi .no).set si .no) ++ [.hal m0 [], .hal m1 [], .ol [], .ol []])) := if_pos hc
  rw [hE] at hk3 e3
  obtain ⟨c1, c2, c3, c4, c5⟩ := hc
  let z : Zp := ⟨G0, H0, [.ref a0, .ref a1, .ref l0, .ref l1], [(hi, .ref T), (si, .ref L)], [(T, .tup [.ref a0, .ref a1]), (L, .lst [.ref l0, .ref l1])], n⟩
  have zo : z.Ok := by
    refine ⟨?_, fun v hv => ?_, fun q hq C dx fs => ?_⟩
    · show List.Nodup [V.ref a0, .ref a1, .ref l0, .ref l1]
      have i1 : ∀ {a b : Addr}, a ≠ b → V.ref a ≠ V.ref b := fun h z => h (by cases z; rfl)
      have u1 := i1 da
      have u2 := i1 (ne4 ha0' hl0)
      have u3 := i1 (ne4 ha0' hl1)
      have u4 := i1 (ne4 ha1 hl0)
      have u5 := i1 (ne4 ha1 hl1)
      have u6 := i1 (Ne.symm dl1)
      simp only [List.nodup_cons, List.mem_cons, List.mem_nil_iff, or_false, not_or, List.nodup_nil, not_false_eq_true, and_true]
      exact ⟨⟨u1, u2, u3⟩, ⟨u4, u5⟩, u6⟩
    · have hv : v ∈ [V.ref a0, .ref a1, .ref l0, .ref l1] := hv
      simp only [List.mem_cons, List.mem_nil_iff, or_false] at hv
      rcases hv with rfl | rfl | rfl | rfl
      · exact ⟨a0, rfl, h0a0⟩
      · exact ⟨a1, rfl, h0a1⟩
      · exact ⟨l0, rfl, h0l0⟩
      · exact ⟨l1, rfl, h0l1⟩
    · have hq : q ∈ [(T, HO.tup [V.ref a0, .ref a1]), (L, HO.lst [V.ref l0, .ref l1])] := hq
      simp only [List.mem_cons, List.mem_nil_iff, or_false] at hq
      rcases hq with rfl | rfl <;> exact fun w => nomatch w
  have sh : Sh ⟨[hi, si], [], n, 4, some (hi, si)⟩ z := ⟨rfl, rfl, fun p hp => (nomatch hp), rfl, fun p hp => by
    cases hp
    exact ⟨T, L, _, _, _, _, rfl, List.mem_cons_self, List.mem_cons_of_mem _ List.mem_cons_self, List.mem_cons_self, List.mem_cons_of_mem _ List.mem_cons_self⟩⟩
  have hls : σ.length = n := by rw [← rep.len, c2]
  have rb : Rep ⟨X.K, ca⟩ G4 H8 ((ρ.set hi .no).set si .no) ((σ.set hi (some (.ref T))).set si (some (.ref L))) := (r8.set (s := .no) (o := some (.ref T)) rfl trivial).set (s := .no) (o := some (.ref L)) rfl trivial
  have eb : Ent G0 H0 G4 H8 ((ρ.set hi .no).set si .no) ((σ.set hi (some (.ref T))).set si (some (.ref L))) := ent_set (ent_set en8 hi _) si _
  -- none of the new ones is held
  have nhld : ∀ b, H b = none → ¬ HldA ((ρ.set hi .no).set si .no) ((σ.set hi (some (.ref T))).set si (some (.ref L))) b := fun b hb ⟨i, s, h1, h2, h3⟩ => by
    rw [List.getElem?_set] at h1
    by_cases hi1 : si = i
    · rw [if_pos hi1] at h1
      split at h1 <;> cases h1
      cases h2
    · rw [if_neg hi1, List.getElem?_set] at h1
      rw [List.getElem?_set_ne hi1] at h3
      by_cases hi2 : hi = i
      · rw [if_pos hi2] at h1
        split at h1 <;> cases h1
        cases h2
      · rw [if_neg hi2] at h1
        rw [List.getElem?_set_ne hi2] at h3
        exact held_none rep hb ⟨i, s, h1, h2, h3⟩
  have len2 : ((ρ.set hi .no).set si .no).length = ((σ.set hi (some (V.ref T))).set si (some (V.ref L))).length := rb.len
  have s1 := rep_app1 rb (s := .hal m0 []) (o := some (.ref a0)) ⟨a0, dx0, p0, rfl, g0', x48 _ _ ha0', q0'⟩ rfl
  have s2 := rep_app1 s1 (s := .hal m1 []) (o := some (.ref a1)) ⟨a1, dx1, p1, rfl, g1, x48 _ _ ha1, q4⟩ rfl
  have nh2 : ∀ b, H b = none → ¬ HldA ((((ρ.set hi .no).set si .no) ++ [.hal m0 []]) ++ [.hal m1 []]) ((((σ.set hi (some (.ref T))).set si (some (.ref L))) ++ [some (.ref a0)]) ++ [some (.ref a1)]) b := fun b hb h => by
    rcases hld_app s1.len h with h | ⟨h, _⟩
    · rcases hld_app len2 h with h | ⟨h, _⟩
      · exact nhld b hb h
      · cases h
    · cases h
  have s3 := rep_appO s2 (s := .ol []) (p := l0) ⟨l0, [], rfl, gl0, x0, .nil⟩ (nh2 l0 (h24 l0 hl0))
  have nh3 : ∀ b, H b = none → b ≠ l0 → ¬ HldA (((((ρ.set hi .no).set si .no) ++ [.hal m0 []]) ++ [.hal m1 []]) ++ [.ol []]) (((((σ.set hi (some (.ref T))).set si (some (.ref L))) ++ [some (.ref a0)]) ++ [some (.ref a1)]) ++ [some (.ref l0)]) b := fun b hb hne h => by
    rcases hld_app s2.len h with h | ⟨_, h⟩
    · exact nh2 b hb h
    · cases h; exact hne rfl
  have s4 := rep_appO s3 (s := .ol []) (p := l1) ⟨l1, [], rfl, gl1, x1, .nil⟩ (nh3 l1 (h24 l1 hl1) dl1)
  have nh4 : ∀ b, H b = none → b ≠ l0 → b ≠ l1 → ¬ HldA ((((((ρ.set hi .no).set si .no) ++ [.hal m0 []]) ++ [.hal m1 []]) ++ [.ol []]) ++ [.ol []]) ((((((σ.set hi (some (.ref T))).set si (some (.ref L))) ++ [some (.ref a0)]) ++ [some (.ref a1)]) ++ [some (.ref l0)]) ++ [some (.ref l1)]) b := fun b hb hne1 hne2 h => by
    rcases hld_app s3.len h with h | ⟨_, h⟩
    · exact nh3 b hb hne1 h
    · cases h; exact hne2 rfl
  have eS : ((((((ρ.set hi .no).set si .no) ++ [.hal m0 []]) ++ [.hal m1 []]) ++ [.ol []]) ++ [.ol []]) = ((ρ.set hi .no).set si .no) ++ [.hal m0 [], .hal m1 [], .ol [], .ol []] := by simp only [List.append_assoc, List.cons_append, List.nil_append]
  have eσ : ((((((σ.set hi (some (V.ref T))).set si (some (V.ref L))) ++ [some (V.ref a0)]) ++ [some (V.ref a1)]) ++ [some (V.ref l0)]) ++ [some (V.ref l1)]) = up z ((σ.set hi (some (V.ref T))).set si (some (V.ref L))) := by
    show _ = _ ++ [some (V.ref a0), some (V.ref a1), some (V.ref l0), some (V.ref l1)]
    simp only [List.append_assoc, List.cons_append, List.nil_append]
  rw [eS, eσ] at s4 nh4
  have R : RZ ⟨X.K, ca⟩ z (((ρ.set hi .no).set si .no) ++ [.hal m0 [], .hal m1 [], .ol [], .ol []]) G4 H8 ((σ.set hi (some (.ref T))).set si (some (.ref L))) := by
    have hl2 : ((ρ.set hi .no).set si .no).length = n := by rw [List.length_set, List.length_set, c2]
    refine ⟨s4, ⟨en8.nx, fun i s p hp w f => ?_⟩, by rw [List.length_set, List.length_set, hls], ?_, fun p hp => ?_, fun p hp => ?_⟩
    · by_cases hin : i < n
      · rw [List.getElem?_append_left (by omega)] at hp
        rw [up_low (by rw [List.length_set, List.length_set, hls]; exact hin)] at f
        exact eb.own i s p hp w f
      · obtain ⟨k, rfl⟩ : ∃ k, i = n + k := ⟨i - n, by omega⟩
        rw [List.getElem?_append_right (by omega), hl2] at hp
        have f : (((σ.set hi (some (V.ref T))).set si (some (V.ref L))) ++ [some (V.ref a0), some (V.ref a1), some (V.ref l0), some (V.ref l1)])[n + k]? = some (some (.ref p)) := f
        have hl3 : ((σ.set hi (some (V.ref T))).set si (some (V.ref L))).length = n := by rw [List.length_set, List.length_set, hls]
        rw [List.getElem?_append_right (by omega), hl3] at f
        rw [show n + k - n = k by omega] at hp f
        match k, hp, f with
        | 0, hp, _ => cases hp; cases w
        | 1, hp, _ => cases hp; cases w
        | 2, _, f => cases f; exact h0l0
        | 3, _, f => cases f; exact h0l1
        | k + 4, hp, _ => simp at hp
    · show (List.take n _).all notHal = true
      rw [List.take_append_of_le_length (by omega), List.take_of_length_le (by omega)]
      exact all_set rfl (all_set rfl c1)
    · have hp : p ∈ [(hi, V.ref T), (si, V.ref L)] := hp
      simp only [List.mem_cons, List.mem_nil_iff, or_false] at hp
      rcases hp with rfl | rfl
      · show ((σ.set hi (some (V.ref T))).set si (some (V.ref L)))[hi]? = _
        rw [List.getElem?_set_ne (Ne.symm c5), List.getElem?_set_self (by omega)]
      · show ((σ.set hi (some (V.ref T))).set si (some (V.ref L)))[si]? = _
        rw [List.getElem?_set_self (by rw [List.length_set]; omega)]
    · have hp : p ∈ [(T, HO.tup [V.ref a0, .ref a1]), (L, HO.lst [V.ref l0, .ref l1])] := hp
      simp only [List.mem_cons, List.mem_nil_iff, or_false] at hp
      rcases hp with rfl | rfl
      · exact ⟨xT, nh4 T (h24 T hT) (Ne.symm dl0T) (Ne.symm dl1T)⟩
      · exact ⟨xL, nh4 L (h24 L hL) dL0 dL1⟩
  cases hF : FR (((ρ.set hi .no).set si .no) ++ [.hal m0 [], .hal m1 [], .ol [], .ol []]) with
  | stuck => rw [hF] at hk3; exact absurd rfl hk3
  | err x => rw [hF] at hk3; exact absurd rfl hk3
  | ok o =>
    rw [hF] at hk3 e3
    cases o with
    | nx S => exact absurd rfl hk3
    | rt d S =>
      refine hR.sem z zo sh G4 H8 _ _ R (by rw [hF]; exact fun w => nomatch w) (by rw [hF]; exact fun x w => nomatch w) D (fun S' e => by rw [hF] at e; cases e) fun d' S' e G' H' σ' v R' q => ?_
      rw [hF] at e
      cases e
      exact rt (.sh d) e3 G' H' v R'.en.nx q
def subK (base n : Nat) : PyData → Rs Ag
  | .int 0 => .ok (.inl (n + base))
  | .int 1 => .ok (.inl (n + (base + 1)))
  | _ => .stuck
def zSub (base n : Nat) (F : Env → Rs PyData) : Env → Rs Ag := fun S => F (S.take n) >>= subK base n
section
variable {ca : Nat → Addr} {X : Cx} {E : XK} {d : Zd}
theorem zSub_ok {base n : Nat} {x : PyData} (h : subK base n x ≠ .stuck) : x = .int 0 ∨ x = .int 1 := by
  unfold subK at h
  split at h
  · exact .inl rfl
  · exact .inr rfl
  · exact absurd rfl h
/-- which of the halls -/
theorem gz_subH {hi si : Nat} {x : Str} {e : Expr} {te : TE} {F : Env → Rs PyData} {p pos : Pos} (hlw : d.lw = some (hi, si)) (hv : PE X (.Name x p) (tVar hi)) (h : JB ca X E e te F) (hs : PlainIx e := by exact fun _ _ => rfl) : GZ ca X d (.Subscript (.Name x p) e pos) (tOp (rIx X.K) (tVar hi) te) (zSub 0 d.n F) :=
  ⟨pe_ix ix_seq hv h.pe hs, fun z zo sh G H S σ R hns her Q ok => by
    obtain ⟨T, L, v0, v1, v2, v3, eg, k1, k2, d1, d2⟩ := sh.lw _ hlw
    refine ⟨.ref T, R.kp _ k1, ?_⟩
    have low := R.low
    rw [sh.n] at low
    refine h.sem G H _ σ low (fun w => hns (by unfold zSub; rw [w]; rfl)) _ (fun a ea G1 H1 v n1 q1 => ?_) fun x w => absurd (by unfold zSub; rw [w]; rfl) (her x)
    have e1 : zSub 0 d.n F S = subK 0 d.n a := by unfold zSub; rw [ea]; rfl
    rw [e1] at hns ok
    have R1 := R.nx n1
    have hT := (R1.sd _ d1).1
    have e2 : ∀ k, (up z σ)[d.n + k]? = (z.gv[k]?).map some := fun k => by rw [← sh.n]; exact up_high R k
    rcases zSub_ok hns with rfl | rfl
    · cases db_int q1
      exact .inr (.inl ⟨T, [v0, v1], 0, v0, rfl, rfl, tup_sqt hT, rfl, ok _ rfl G1 H1 v0 n1 (.ix (by rw [e2, eg]; rfl) .nil)⟩)
    · cases db_int q1
      exact .inr (.inl ⟨T, [v0, v1], 1, v1, rfl, rfl, tup_sqt hT, rfl, ok _ rfl G1 H1 v1 n1 (.ix (by rw [e2, eg]; rfl) .nil)⟩)⟩
/-- which of the lists -/
theorem gz_subL {hi si : Nat} {x : Str} {e : Expr} {te : TE} {F : Env → Rs PyData} {p pos : Pos} (hlw : d.lw = some (hi, si)) (hv : PE X (.Name x p) (tVar si)) (h : JB ca X E e te F) (hs : PlainIx e := by exact fun _ _ => rfl) : GZ ca X d (.Subscript (.Name x p) e pos) (tOp (rIx X.K) (tVar si) te) (zSub 2 d.n F) :=
  ⟨pe_ix ix_seq hv h.pe hs, fun z zo sh G H S σ R hns her Q ok => by
    obtain ⟨T, L, v0, v1, v2, v3, eg, k1, k2, d1, d2⟩ := sh.lw _ hlw
    refine ⟨.ref L, R.kp _ k2, ?_⟩
    have low := R.low
    rw [sh.n] at low
    refine h.sem G H _ σ low (fun w => hns (by unfold zSub; rw [w]; rfl)) _ (fun a ea G1 H1 v n1 q1 => ?_) fun x w => absurd (by unfold zSub; rw [w]; rfl) (her x)
    have e1 : zSub 2 d.n F S = subK 2 d.n a := by unfold zSub; rw [ea]; rfl
    rw [e1] at hns ok
    have R1 := R.nx n1
    have hL := (R1.sd _ d2).1
    have e2 : ∀ k, (up z σ)[d.n + k]? = (z.gv[k]?).map some := fun k => by rw [← sh.n]; exact up_high R k
    rcases zSub_ok hns with rfl | rfl
    · cases db_int q1
      exact .inl ⟨L, [v2, v3], 0, v2, rfl, rfl, .inl (.inl hL), rfl, ok _ rfl G1 H1 v2 n1 (.ix (by rw [e2, eg]; rfl) .nil)⟩
    · cases db_int q1
      exact .inl ⟨L, [v2, v3], 1, v3, rfl, rfl, .inl (.inl hL), rfl, ok _ rfl G1 H1 v3 n1 (.ix (by rw [e2, eg]; rfl) .nil)⟩⟩
end
end PF

namespace PF
open PySem L2

/-! ### texts, places in lists -/
def idxD (ds : List PyData) (b : PyData) : Rs PyData := if SeqAt.shaped (.list ds) = true ∧ SeqAt.shaped b = true then (match ds.findIdx? fun z => PyData.eqv z b with
    | some j => .ok (.int (j : Nat))
    | none => .stuck) else .stuck
def fIdx (Fa Fb : Env → Rs PyData) : Env → Rs PyData := fun ρ => Fa ρ >>= fun a => itemsL a >>= fun ds => Fb ρ >>= fun b => idxD ds b
section
variable {ca : Nat → Addr} {X : Cx} {E : XK} {o e : Expr} {ta tb : TE} {Fa Fb : Env → Rs PyData} {p pos apos cpos : Pos}
theorem js_str {x : Str} {j : Nat} : JS ca X E (.Constant (.str x) j pos) (tC (.str x)) (fC (.str x)) := ⟨pe_str, sem_c fun _ => .str x⟩
theorem sem_idx {c : Pc} (ha : SemG c E ta Fa (RB c)) (hb : SemG c E tb Fb (RB c)) : SemG c E (tBM c.K "list" (rIndexD c.K) ta (tCons tb tNil)) (fIdx Fa Fb) (RS c) := by
  intro G H ρ σ rep hns Q ok er
  refine ha.use rep hns er fun a ea e1 G1 H1 x n1 r1 q1 h1 er1 => ?_
  cases a with
  | list ds =>
    obtain ⟨p, xs, rfl, hx, ax⟩ := db_list n1.gh q1
    refine ⟨.inl ⟨rfl, xs, hx⟩, ?_⟩
    refine hb.use r1 h1 er1 fun b eb e2 G2 H2 y n2 r2 q2 h2 er2 => ?_
    by_cases hc : SeqAt.shaped (.list ds) = true ∧ SeqAt.shaped b = true
    case neg => exact absurd (if_neg hc) h2
    have e3 : idxD ds b = (match ds.findIdx? fun z => PyData.eqv z b with
      | some j => .ok (.int (j : Nat))
      | none => .stuck) := if_pos hc
    cases hj : ds.findIdx? fun z => PyData.eqv z b with
    | none => rw [hj] at e3; exact absurd e3 h2
    | some j =>
      rw [hj] at e3
      obtain ⟨hl, hz, hno⟩ := List.findIdx?_eq_some_iff_getElem.mp hj
      have dl : Dp c.K H2 (.ref p) (.list ds) := .lst (Ex.sql n2.h hx) (DpAll.ex n2.gh (DpAll.ex n2.g ax))
      have dy : Dp c.K H2 y b := db_h n2.gh q2
      refine ⟨p, y, b, ds, j, ds[j], rfl, rfl, dl.weak, dy.weak, hc.1, hc.2, List.getElem?_eq_getElem hl, hz, fun m z' hm hz' => ?_, ok _ ?_ G2 H2 _ (n1.trans n2) (.int _)⟩
      · obtain ⟨hm2, em⟩ := List.getElem?_eq_some_iff.mp hz'
        have := hno m hm
        rw [em] at this
        simpa using this
      · unfold fIdx
        rw [e1]
        show (Fb ρ >>= fun b => idxD ds b) = _
        rw [eb]
        exact e3
  | _ => exact absurd rfl h1
theorem js_index (hu : X.A.units + 65 < cLine) (ha : JB ca X E o ta Fa) (hb : JB ca X E e tb Fb)
    (hbase : attributeBase o "index" X.env (eval o X.env) = eval o X.env := by rfl)
    (hfew : ((backTo cpos (starEach [e] X.env)).all (fun x => !x.1) && (backToKw cpos (keywordEach [] X.env)).all (fun x => x.1.isSome)
      && decide (([e]).length + ([] : List Keyword).length + (if ([] : List Keyword).isEmpty then 0 else 1) < 30)) = true := by rfl)
    (hline : (apos.endLine == cpos.line) = true := by rfl) (hs : starEach [e] X.env = (false, eval e X.env) :: starEach [] X.env := by rfl) (hplain : (backTo cpos (starEach [] X.env)).any (·.1) = false := by rfl) :
    JS ca X E (.Call (.Attribute o "index" apos) [e] [] cpos) (tBM X.K "list" (rIndexD X.K) ta (tCons tb tNil)) (fIdx Fa Fb) :=
  ⟨pe_bm PySem.F.plainAttrs_list PySem.F.slot_list_index PySem.F.type_list_index (mt_indexD hu) ha.pe (pa_cons hb.pe pa_nil hs) hbase hfew hline hs hplain, sem_idx (c := ⟨X.K, ca⟩) ha.sem hb.sem⟩
/-! ### a or b, b a call that changes what it is handed -/
end
theorem keeps_one {a : Nat} {t : TS} (h : Keeps a t) : ∀ i ∈ [a], Keeps i t := fun i hi => by rw [List.mem_singleton.mp hi]; exact h
theorem keeps_two' {a b : Nat} {t : TS} (h : Keeps a t) (k : Keeps b t) : ∀ i ∈ [a, b], Keeps i t := fun i hi => by
  rcases List.mem_cons.mp hi with rfl | hi
  · exact h
  · rw [List.mem_singleton.mp hi]; exact k
theorem keepsG_two {a b : Nat} {g : TG} (h : KeepsG a g) (k : KeepsG b g) : ∀ i ∈ [a, b], KeepsG i g := fun i hi => by
  rcases List.mem_cons.mp hi with rfl | hi
  · exact h
  · rw [List.mem_singleton.mp hi]; exact k
end PF
namespace PF
open PySem L2
theorem pe_hall {ca : Nat → Addr} {X : Cx} {E : XK} {k : Nat} {e : Expr} {es : List Expr} {t : TA} {p pos : Pos} (M : MakH X.prog X.w X.K X.mg X.base ca) (hr : Room k X.A) (hk : 2 ≤ k) (hx : Passes (L2.CX X.prog X.w) X E) (ha : PA X (e :: es) t) (hg : Gl X "Hall" := by rfl)
    (he : starEach (e :: es) X.env = (false, eval e X.env) :: starEach es X.env := by rfl) (hpl : (backTo pos (starEach es X.env)).any (·.1) = false := by rfl) :
    PE X (.Call (.Name "Hall" p) (e :: es) [] pos) (tMake (ca 6) (spHI ⟨X.K, ca⟩) [] E t) := by
  obtain ⟨f, fd, ps, hM, F, hm, hb⟩ := M.ex
  exact pe_make hM F (hr.mono hk) hg hm hb .nil hx ha (by decide) he hpl
end PF
namespace PF
open PySem L2
/-! ### calls that get a held error -/
def RAS (c : Pc) : Rel (List V) (List Sl) := fun _ _ G' H' vs ss => Rep c G' H' ss (vs.map some) ∧ ∀ s ∈ ss, s.own = false
structure JAS (ca : Nat → Addr) (X : Cx) (E : XK) (es : List Expr) (t : TA) (F : Env → Rs (List Sl)) : Prop where
  pa : PA X es t
  sem : SemG ⟨X.K, ca⟩ E t F (RAS ⟨X.K, ca⟩)
def slN : Option Sl → Rs Sl
  | some (.sh d) => .ok (.sh d)
  | some (.exn x) => .ok (.exn x)
  | some (.hal m ds) => .ok (.hal m ds)
  | _ => .stuck
def fSNil : Env → Rs (List Sl) := fun _ => .ok []
def fSVar (i : Nat) (F : Env → Rs (List Sl)) : Env → Rs (List Sl) := fun ρ => slN ρ[i]? >>= fun s => F ρ >>= fun ss => .ok (s :: ss)
section
variable {ca : Nat → Addr} {X : Cx} {E : XK}
theorem jas_nil : JAS ca X E [] tNil fSNil := ⟨pa_nil, fun G H ρ σ rep hns Q ok er => ok [] rfl G H [] (Nx.refl rep.gh) ⟨rep_slots rep.gh, fun _ h => nomatch h⟩⟩
theorem jas_var (i : Nat) {x : Str} {p : Pos} {es : List Expr} {t : TA} {F : Env → Rs (List Sl)} (h : PE X (.Name x p) (tVar i)) (h' : JAS ca X E es t F) (he : starEach (.Name x p :: es) X.env = (false, eval (.Name x p) X.env) :: starEach es X.env := by rfl) : JAS ca X E (.Name x p :: es) (tCons (tVar i) t) (fSVar i F) :=
  ⟨pa_cons h h'.pa he, fun G H ρ σ rep hns Q ok er => by
    unfold fSVar at hns ok er
    cases hs : slN ρ[i]? with
    | stuck => rw [hs] at hns; exact absurd rfl hns
    | err x => unfold slN at hs; split at hs <;> cases hs
    | ok s =>
      rw [hs] at hns ok er
      have hsl : ρ[i]? = some s ∧ s.own = false ∧ s ≠ .no := by
        unfold slN at hs
        split at hs
        · rename_i h; cases hs; exact ⟨h, rfl, fun z => nomatch z⟩
        · rename_i h; cases hs; exact ⟨h, rfl, fun z => nomatch z⟩
        · rename_i h; cases hs; exact ⟨h, rfl, fun z => nomatch z⟩
        · cases hs
      obtain ⟨o, e1, q⟩ := rep.sl i s hsl.1
      obtain ⟨v, rfl⟩ : ∃ v, o = some v := by
        cases s with
        | no => exact absurd rfl hsl.2.2
        | sh d => obtain ⟨v, e, _⟩ := q; exact ⟨v, e⟩
        | exn x => obtain ⟨v, e, _⟩ := q; exact ⟨v, e⟩
        | hal m d => obtain ⟨a, _, _, e, _⟩ := q; exact ⟨_, e⟩
        | ol d => cases hsl.2.1
        | od d => cases hsl.2.1
      refine ⟨v, e1, ?_⟩
      have hns' : (F ρ >>= fun ss => Rs.ok (s :: ss)) ≠ .stuck := hns
      have er' : ErrP ⟨X.K, ca⟩ E G H (F ρ >>= fun ss => Rs.ok (s :: ss)) := er
      refine h'.sem.use rep hns' er' fun ss es' e2 G' H' vs n r q' _ _ => ok (s :: ss) e2 G' H' (v :: vs) n ⟨rep_consN (q.nx n) hsl.2.1 q'.1, fun u hu => ?_⟩
      rcases List.mem_cons.mp hu with rfl | hu
      · exact hsl.2.1
      · exact q'.2 u hu⟩
theorem jv_callR {x : Str} {k np : Nat} {f : List Sl → Rs Sl} {e : Expr} {es : List Expr} {t : TA} {Fa : Env → Rs (List Sl)} {p pos : Pos} (C : CalleeR X.prog X.w X.K X.mg X.base ca x k f np) (hr : Room k X.A) (hx : Passes (L2.CX X.prog X.w) X E) (ha : JAS ca X E (e :: es) t Fa)
    (hg : Gl X x := by rfl) (hdb : (x == ("__debug__" : Str)) = false := by decide) (he : starEach (e :: es) X.env = (false, eval e X.env) :: starEach es X.env := by rfl) (hpl : (backTo pos (starEach es X.env)).any (·.1) = false := by rfl) :
    JV ca X E (.Call (.Name x p) (e :: es) [] pos) (tCall (spR ⟨X.K, ca⟩ f np) [] E t) (fun ρ => Fa ρ >>= f) := by
  obtain ⟨a, fd, ps, F, hm, hk, hb⟩ := C.ex
  refine ⟨pe_call F hr hg hm hk hb .nil hx ha.pa hdb he hpl, fun G H ρ σ rep hns Q ok er => ?_⟩
  refine ha.sem.use rep hns er fun ss es' e1 G1 H1 vs n1 r1 q1 h1 er1 => ?_
  show spR ⟨X.K, ca⟩ f np (vs ++ []) H1 Q E
  rw [List.append_nil]
  exact ⟨G1, ss, q1.1, C.len ss h1, q1.2, h1, fun s e G' H' v n r => ok s (e1.trans e) G' H' v (n1.trans n) (RV.mono n1 r), er1⟩
end
end PF
namespace PF
open PySem L2
theorem jps_lawH {ca : Nat → Addr} {X : Cx} {E : XK} (hi si n : Nat) {kr : Nat} {xh xs : Str} {p1 p2 p3 p4 p5 p6 p7 p8 p9 p10 p11 p12 : Pos} {j1 : Nat} {e0 e1 : Expr} {rest : List Stmt} {te0 te1 : TE} {tr : TS} {F0 F1 : Env → Rs PyData} {FR : Env → Rs OutZ}
    (M : MakH X.prog X.w X.K X.mg X.base ca) (hr : Room kr X.A) (hk : 2 ≤ kr) (hx : Passes (L2.CX X.prog X.w) X E) (hN : X.N.Nodup) (h0 : JS ca X E e0 te0 F0) (h1 : JS ca X E e1 te1 F1) (hR : JZ ca X ⟨[hi, si], [], n, 4, some (hi, si)⟩ rest tr FR)
    (i1 : X.N[hi]? = some xh) (i2 : X.N[si]? = some xs) (l1 : Loc X.env.scope xh) (l2 : Loc X.env.scope xs) (f1 : X.fn xh = true ∨ X.env.scope.names.lookup xh = some .local) (f2 : X.fn xs = true ∨ X.env.scope.names.lookup xs = some .local)
    (hg : Gl X "Hall" := by rfl) (s0 : starEach [e0] X.env = (false, eval e0 X.env) :: starEach [] X.env := by rfl) (s1 : starEach [e1] X.env = (false, eval e1 X.env) :: starEach [] X.env := by rfl)
    (b0 : (backTo p4 (starEach [] X.env)).any (·.1) = false := by rfl) (b1 : (backTo p6 (starEach [] X.env)).any (·.1) = false := by rfl)
    (t1 : starEach [Expr.Call (.Name "Hall" p3) [e0] [] p4, .Call (.Name "Hall" p5) [e1] [] p6] X.env = (false, eval (.Call (.Name "Hall" p3) [e0] [] p4) X.env) :: starEach [.Call (.Name "Hall" p5) [e1] [] p6] X.env := by rfl)
    (t2 : starEach [Expr.Call (.Name "Hall" p5) [e1] [] p6] X.env = (false, eval (.Call (.Name "Hall" p5) [e1] [] p6) X.env) :: starEach [] X.env := by rfl)
    (t3 : starEach [Expr.List [] p9, .List [] p10] X.env = (false, eval (.List [] p9) X.env) :: starEach [.List [] p10] X.env := by rfl)
    (t4 : starEach [Expr.List [] p10] X.env = (false, eval (.List [] p10) X.env) :: starEach [] X.env := by rfl)
    (w1 : swapsWith (Expr.Tuple [.Call (.Name "Hall" p3) [e0] [] p4, .Call (.Name "Hall" p5) [e1] [] p6] j1 p7) (some (.Name xh p1)) p2.line X.env = pure false := by rfl)
    (w2 : swapsWith (Expr.List [.List [] p9, .List [] p10] p11) (some (.Name xs p8)) p12.line X.env = pure false := by rfl) :
    JPs ca X E (.Assign [.Name xh p1] (.Tuple [.Call (.Name "Hall" p3) [e0] [] p4, .Call (.Name "Hall" p5) [e1] [] p6] j1 p7) p2 :: .Assign [.Name xs p8] (.List [.List [] p9, .List [] p10] p11) p12 :: rest)
      (tSeq (tAsg (tTup (tCons (tMake (ca 6) (spHI ⟨X.K, ca⟩) [] E (tCons te0 tNil)) (tCons (tMake (ca 6) (spHI ⟨X.K, ca⟩) [] E (tCons te1 tNil)) tNil))) (gName hi)) (tSeq (tAsg (tLst (tCons (tLst tNil) (tCons (tLst tNil) tNil))) (gName si)) tr)) (zLaw n hi si F0 F1 FR) :=
  jps_law hi si n
    (ps_set hN (i := hi) i1 l1 (pe_tup (pa_cons (pe_hall M hr hk hx (pa_cons h0.pe pa_nil s0) hg s0 b0) (pa_cons (pe_hall M hr hk hx (pa_cons h1.pe pa_nil s1) hg s1 b1) pa_nil t2) t1)) w1 f1)
    (ps_set hN (i := si) i2 l2 (pe_lst (pa_cons (pe_lst pa_nil) (pa_cons (pe_lst pa_nil) pa_nil t4) t3)) w2 f2) h0 h1 hR
end PF
namespace PF
open PySem L2
theorem keeps_raise {i : Nat} {p : L2.St → Hp → Prop} : Keeps i (fun _ σ H => p σ H) := fun _ _ _ _ _ _ _ => rfl
end PF

namespace PF
open PySem L2
/-! ### the text by places -/
def topS (i : Nat) : Stmt := PySem.Challenge.pw_wallspace_k81_whole_hall.main.body.getD i (.Pass ⟨0, 0, 0, 0⟩)
structure Blt (mg : Str → Option Value) : Prop where
  b_ValueError : mg "ValueError" = none
  b_abs : mg "abs" = none
  b_any : mg "any" = none
  b_bool : mg "bool" = none
  b_enumerate : mg "enumerate" = none
  b_int : mg "int" = none
  b_isinstance : mg "isinstance" = none
  b_len : mg "len" = none
  b_list : mg "list" = none
  b_max : mg "max" = none
  b_range : mg "range" = none
  b_tuple : mg "tuple" = none
abbrev s_Hall_walls : Stmt := inClass (topS 14) 3
theorem sc_Hall_walls : FnScope ["self"] ["self"] (defScope s_Hall_walls) := ⟨rfl, rfl, rfl, by decide +kernel, rfl, by decide +kernel, by decide +kernel⟩
abbrev s_Hall_take : Stmt := inClass (topS 14) 2
theorem sc_Hall_take : FnScope ["self", "place"] ["self", "place"] (defScope s_Hall_take) := ⟨rfl, rfl, rfl, by decide +kernel, rfl, by decide +kernel, by decide +kernel⟩
abbrev s_divisor : Stmt := topS 9
theorem sc_divisor : FnScope ["one", "other"] ["one", "other"] (defScope s_divisor) := ⟨rfl, rfl, rfl, by decide +kernel, rfl, by decide +kernel, by decide +kernel⟩
abbrev s_plain_wall : Stmt := topS 11
theorem sc_plain_wall : FnScope ["numbers", "by", "number", "heads"] ["numbers"] (defScope s_plain_wall) := ⟨rfl, rfl, rfl, by decide +kernel, rfl, by decide +kernel, by decide +kernel⟩
abbrev s_wall : Stmt := topS 12
theorem sc_wall : FnScope ["numbers"] ["numbers"] (defScope s_wall) := ⟨rfl, rfl, rfl, by decide +kernel, rfl, by decide +kernel, by decide +kernel⟩
abbrev s_Hall_put : Stmt := inClass (topS 14) 1
theorem sc_Hall_put : FnScope ["self", "numbers", "one"] ["self", "numbers"] (defScope s_Hall_put) := ⟨rfl, rfl, rfl, by decide +kernel, rfl, by decide +kernel, by decide +kernel⟩
abbrev s__law_cell_at : Stmt := topS 16
theorem sc__law_cell_at : FnScope ["_law_script", "_law_k"] ["_law_script", "_law_k"] (defScope s__law_cell_at) := ⟨rfl, rfl, rfl, by decide +kernel, rfl, by decide +kernel, by decide +kernel⟩
abbrev s__law_whole : Stmt := topS 17
theorem sc__law_whole : FnScope ["_law_found"] ["_law_found"] (defScope s__law_whole) := ⟨rfl, rfl, rfl, by decide +kernel, rfl, by decide +kernel, by decide +kernel⟩
abbrev s__law_divisor : Stmt := topS 20
theorem sc__law_divisor : FnScope ["_law_one", "_law_other"] ["_law_one", "_law_other"] (defScope s__law_divisor) := ⟨rfl, rfl, rfl, by decide +kernel, rfl, by decide +kernel, by decide +kernel⟩
abbrev s__law_plain : Stmt := topS 21
theorem sc__law_plain : FnScope ["_law_row_here", "_law_by", "_law_lead", "_law_number"] ["_law_row_here"] (defScope s__law_plain) := ⟨rfl, rfl, rfl, by decide +kernel, rfl, by decide +kernel, by decide +kernel⟩
abbrev s__law_row : Stmt := topS 22
theorem sc__law_row : FnScope ["_law_standing", "_law_ways", "_law_cell", "_law_row_here", "_law_number", "_law_k", "_law_way", "_law_part"] ["_law_standing", "_law_ways", "_law_cell"] (defScope s__law_row) := ⟨rfl, rfl, rfl, by decide +kernel, rfl, by decide +kernel, by decide +kernel⟩
abbrev s__law_told : Stmt := topS 23
theorem sc__law_told : FnScope ["_law_caught", "_law_found"] ["_law_caught"] (defScope s__law_told) := ⟨rfl, rfl, rfl, by decide +kernel, rfl, by decide +kernel, by decide +kernel⟩
abbrev s__law_put : Stmt := topS 24
theorem sc__law_put : FnScope ["_law_hall", "_law_row_here", "_law_caught", "e"] ["_law_hall", "_law_row_here"] (defScope s__law_put) := ⟨rfl, rfl, rfl, by decide +kernel, rfl, by decide +kernel, by decide +kernel⟩
abbrev s__law_took : Stmt := topS 25
theorem sc__law_took : FnScope ["_law_hall", "_law_place", "_law_caught", "e"] ["_law_hall", "_law_place"] (defScope s__law_took) := ⟨rfl, rfl, rfl, by decide +kernel, rfl, by decide +kernel, by decide +kernel⟩
abbrev s__law_done : Stmt := topS 26
theorem sc__law_done : FnScope ["_law_hall", "_law_standing", "_law_ways", "_law_cell", "_law_place", "_law_there", "_law_row_here", "_law_due", "_law_handed"] ["_law_hall", "_law_standing", "_law_ways", "_law_cell"] (defScope s__law_done) := ⟨rfl, rfl, rfl, by decide +kernel, rfl, by decide +kernel, by decide +kernel⟩
abbrev s__law_shown : Stmt := topS 27
theorem sc__law_shown : FnScope ["_law_hall", "_law_standing", "_law_found", "_law_one", "_law_part"] ["_law_hall", "_law_standing"] (defScope s__law_shown) := ⟨rfl, rfl, rfl, by decide +kernel, rfl, by decide +kernel, by decide +kernel⟩
abbrev s_law : Stmt := topS 28
theorem sc_law : FnScope ["_law_script", "_law_ways", "_law_halls", "_law_standing", "_law_k", "_law_cell", "_law_number", "_law_which"] ["_law_script"] (defScope s_law) := ⟨rfl, rfl, rfl, by decide +kernel, rfl, by decide +kernel, by decide +kernel⟩
abbrev s_NWi : Stmt := inClass (topS 7) 0
theorem sc_NWi : FnScope ["self", "place"] ["self", "place"] (defScope s_NWi) := ⟨rfl, rfl, rfl, by decide +kernel, rfl, by decide +kernel, by decide +kernel⟩
theorem ok_NWi {P : Program} {w : World} {K : PySem.W.Frag} {mg : Str → Option Value} {base : Heap} {C f : Addr} {fd : FuncData} (F : Fun K "__init__" "NoWall.__init__" s_NWi f fd) (T : OexC K C) (no : PySem.W.findIn K (.ref C) "place" = some none) : FnOk P w K mg base (L2.CX P w) 1 f fd ["self", "place"] (spIni C) :=
  ok_ini F sc_NWi rfl T no fun cdv A outer s H E => pss_one (ps_ost (pv 0) (pv 1))
abbrev s_HI : Stmt := inClass (topS 14) 0
theorem sc_HI : FnScope ["self", "ways"] ["self", "ways"] (defScope s_HI) := ⟨rfl, rfl, rfl, by decide +kernel, rfl, by decide +kernel, by decide +kernel⟩
theorem ok_HI {P : Program} {w : World} {K : PySem.W.Frag} {mg : Str → Option Value} {base : Heap} {ca : Nat → Addr} {f : Addr} {fd : FuncData} (T : HK K ca) (F : Fun K "__init__" "Hall.__init__" s_HI f fd) : FnOk P w K mg base (L2.CX P w) 1 f fd ["self", "ways"] (spHI ⟨K, ca⟩) :=
  ok_hini T F sc_HI fun cdv A outer s H E => pss_cons (ps_fld (pv 0) (pv 1) rfl) (pss_one (ps_fld (pv 0) (pe_lst pa_nil) rfl))
/-! ### what each def computes -/
noncomputable def b_Hall_walls : Env → Rs Out :=
  (fRet (fUn listD (fHalS 0)))
noncomputable def f_Hall_walls : List Sl → Rs Sl := fnS 1 1 b_Hall_walls
noncomputable def b_Hall_take : Env → Rs (List PyData) :=
  (rSeq (fIf (fOr (fB (fOp ltD (fVarB 1) (fC (.int 0)))) (fB (fOp geD (fVarB 1) (fUn lenD (fHalS 0)))))
  (fun _ => .err ⟨3, none⟩)
  fSkip)
  (rLast (fOp addD (fSh (fSl (fHalS 0) fNone (fSome (fVarB 1)))) (fSh (fSl (fHalS 0) (fSome (fSh (fOp addD (fVarB 1) (fC (.int 1))))) fNone)))))
noncomputable def f_Hall_take : Int → List PyData → PyData → Rs (List PyData) := fnP 2 b_Hall_take
noncomputable def p1_divisor : Env → Rs Out :=
  (fFz 1 (fPar 0 1 (fCons (fVarS 1) (fCons (fOp modD (fVarB 0) (fVarB 1)) fNil))))
noncomputable def p2_divisor : Env → Rs Bool :=
  (fB (fOp gtD (fVarB 1) (fC (.int 0))))
noncomputable def b_divisor : Env → Rs Out :=
  (fSeq (fSet 0 (fV (fUn absD (fVarB 0))))
  (fSeq (fSet 1 (fV (fUn absD (fVarB 1))))
  (fSeq (whL p2_divisor
  p1_divisor)
  (fRetVar 0))))
noncomputable def f_divisor : List PyData → Rs Sl := fnOf 2 2 b_divisor
noncomputable def p1_plain_wall : Env → Rs Out :=
  (fFz 1 (fSet 1 (fCall f_divisor (fCons (fVarS 1) (fCons (fVarS 2) fNil)))))
noncomputable def b_plain_wall : Env → Rs Out :=
  (fSeq (fSet 1 (fV (fC (.int 0))))
  (fSeq (fFor (fIt itemsL (fVarS 0)) (tgN 2)
  p1_plain_wall)
  (fSeq (fSet 3 (fLcS (fIt itemsL (fSh (fSl (fVarB 0) fNone (fSome (fUn negD (fC (.int 1))))))) (tgN 2) (fB (fOp neD (fVarB 2) (fC (.int 0)))) (fVarS 2) [2]))
  (fSeq (fIf (fB (fOp ltD (fOp ixD (fVarB 3) (fC (.int 0))) (fC (.int 0))))
  (fSet 1 (fV (fOp subD (fC (.int 0)) (fVarB 1))))
  fSkip)
  (fRet (fV (fUn tupleD (fSh (fLcS (fIt itemsL (fVarB 0)) (tgN 2) fYes (fOp divD (fVarB 2) (fVarB 1)) [2])))))))))
noncomputable def f_plain_wall : List PyData → Rs Sl := fnOf 1 4 b_plain_wall
noncomputable def b_wall : Env → Rs Out :=
  (fSeq (fIf (fNot (fB (fUn anyD (fSh (fSl (fVarB 0) fNone (fSome (fUn negD (fC (.int 1)))))))))
  (fun ρ => (fC (.int 0)) ρ >>= fun d => intOf d >>= fun i => .err ⟨5, some i⟩)
  fSkip)
  (fRet (fCall f_plain_wall (fCons (fVarS 0) fNil))))
noncomputable def f_wall : List PyData → Rs Sl := fnOf 1 1 b_wall
noncomputable def b_Hall_put : Env → Rs (List PyData) :=
  (rSeq (fSet 2 (fCall f_wall (fCons (fVarS 1) fNil)))
  (rSeq (fIf (fB (fOp inD (fVarB 2) (fHalS 0)))
  (fun ρ => (fIdx (fHalS 0) (fVarB 2)) ρ >>= fun d => intOf d >>= fun i => .err ⟨5, some i⟩)
  fSkip)
  (rLast (fOp addD (fHalS 0) (fSh (fUn lstD (fCons (fVarS 2) fNil)))))))
noncomputable def f_Hall_put : Int → List PyData → PyData → Rs (List PyData) := fnP 3 b_Hall_put
noncomputable def b__law_cell_at : Env → Rs Out :=
  (fSeq (fIf (fB (fOp ltD (fVarB 1) (fUn lenD (fVarB 0))))
  (fRet (fV (fOp ixD (fVarB 0) (fVarB 1))))
  fSkip)
  (fRet (fV (fC (.int 0)))))
noncomputable def f__law_cell_at : List PyData → Rs Sl := fnOf 2 2 b__law_cell_at
noncomputable def b__law_whole : Env → Rs Out :=
  (fRet (fV (fAndV (fUn (isiD "int") (fVarB 0)) (fNotV (fUn (isiD "bool") (fVarB 0))))))
noncomputable def f__law_whole : List PyData → Rs Sl := fnOf 1 1 b__law_whole
noncomputable def p1__law_divisor : Env → Rs Out :=
  (fFz 1 (fPar 0 1 (fCons (fVarS 1) (fCons (fOp modD (fVarB 0) (fVarB 1)) fNil))))
noncomputable def p2__law_divisor : Env → Rs Bool :=
  (fB (fOp gtD (fVarB 1) (fC (.int 0))))
noncomputable def b__law_divisor : Env → Rs Out :=
  (fSeq (fSet 0 (fV (fUn absD (fVarB 0))))
  (fSeq (fSet 1 (fV (fUn absD (fVarB 1))))
  (fSeq (whL p2__law_divisor
  p1__law_divisor)
  (fRetVar 0))))
noncomputable def f__law_divisor : List PyData → Rs Sl := fnOf 2 2 b__law_divisor
noncomputable def p1__law_plain : Env → Rs Out :=
  (fSeq (fFz 1 (fSet 1 (fCall f__law_divisor (fCons (fVarS 1) (fCons (fVarS 3) fNil)))))
   (fIf (fB (fOp eqD (fVarB 2) (fC (.int 0))))
   (fSet 2 (fV (fVarS 3)))
   fSkip))
noncomputable def b__law_plain : Env → Rs Out :=
  (fSeq (fSet 1 (fV (fC (.int 0))))
  (fSeq (fSet 2 (fV (fC (.int 0))))
  (fSeq (fFor (fIt itemsL (fVarS 0)) (tgN 3)
  p1__law_plain)
  (fSeq (fIf (fB (fOp ltD (fVarB 2) (fC (.int 0))))
  (fSet 1 (fV (fOp subD (fC (.int 0)) (fVarB 1))))
  fSkip)
  (fRet (fV (fUn tupleD (fSh (fLcS (fIt itemsL (fVarB 0)) (tgN 3) fYes (fOp divD (fVarB 3) (fVarB 1)) [3])))))))))
noncomputable def f__law_plain : List PyData → Rs Sl := fnOf 1 4 b__law_plain
noncomputable def p1__law_row : Env → Rs Out :=
  (fSeq (fApp 3 (fOp subD (fOp modD (fVarB 4) (fC (.int 5))) (fC (.int 2))))
   (fSet 4 (fV (fOp divD (fVarB 4) (fC (.int 5))))))
noncomputable def b__law_row : Env → Rs Out :=
  (fSeq (fSet 3 (fUn lstD fNil))
  (fSeq (fSet 4 (fV (fVarS 2)))
  (fSeq (fFor (fIt rng1 (fCons (fSh (fOp addD (fVarB 1) (fC (.int 1)))) fNil)) (tgN 5)
  p1__law_row)
  (fSeq (fSet 6 (fV (fOp modD (fVarB 4) (fC (.int 5)))))
  (fSeq (fIf (fB (fOp eqD (fVarB 6) (fC (.int 1))))
  (fSet 3 (fLcS (fIt itemsL (fVarB 3)) (tgN 7) fYes (fOp mulD (fVarB 7) (fSh (fOp addD (fC (.int 1)) (fOp modD (fOp divD (fVarB 4) (fC (.int 5))) (fOp powD (fC (.int 10)) (fC (.int 20))))))) [7]))
  fSkip)
  (fSeq (fIf (fB (fOp eqD (fVarB 6) (fC (.int 2))))
  (fSet 3 (fOp addD (fSh (fLcS (fIt rng1 (fCons (fVarS 1) fNil)) (tgN 5) fYes (fC (.int 0)) [5])) (fSh (fSl (fVarB 3) (fSome (fUn negD (fC (.int 1)))) fNone))))
  fSkip)
  (fSeq (fIf (fAnd (fB (fOp eqD (fVarB 6) (fC (.int 3)))) (fB (fOp neD (fVarB 0) (fSh (fUn lstD fNil)))))
  (fSet 3 (fLcS (fIt itemsT (fOp ixD (fVarB 0) (fOp modD (fOp divD (fVarB 4) (fC (.int 5))) (fUn lenD (fVarB 0))))) (tgN 7) fYes (fOp subD (fC (.int 0)) (fVarB 7)) [7]))
  fSkip)
  (fRetVar 3))))))))
noncomputable def f__law_row : List PyData → Rs Sl := fnOf 3 8 b__law_row
noncomputable def b__law_told : Env → Rs Out :=
  (fSeq (fIf (fB (fNoneV 0))
  (fRet (fUn lstD fNil))
  fSkip)
  (fSeq (fIf (fOr (fB (fIsE 0 (fun k => ([4, 2, 1] : List Nat).any fun j => eSub k j))) (fNot (fB (fIsE 0 (fun _ => true)))))
  (fRet (fUn lstD (fCons (fC (.str "other")) fNil)))
  fSkip)
  (fSeq (fSet 1 (fUn lstD fNil))
  (fSeq (fIf (fAnd (fB (fIsE 0 (fun k => eSub k 5))) (fB (fSh (fCall f__law_whole (fCons (fPlace 0) fNil)))))
  (fApp 1 (fUn tupD (fCons (fC (.str "wall")) (fCons (fPlace 0) fNil))))
  fSkip)
  (fSeq (fIf (fB (fIsE 0 (fun k => eSub k 3)))
  (fApp 1 (fC (.str "place")))
  fSkip)
  (fRetVar 1))))))
noncomputable def f__law_told : List Sl → Rs Sl := fnS 1 2 b__law_told
noncomputable def b__law_put : Env → Rs OutZ :=
  (zSeq (zLift none 4 (fSet 2 (fV (fC .none))))
  (zSeq (zTryL 4 0 3 2 1 f_Hall_put)
  (zRet (zRd none 4 (fSh (fun ρ => fSVar 2 fSNil ρ >>= f__law_told))))))
noncomputable def f__law_put : List Sl → Rs (PyData × List Sl) := fnQ 2 4 0 (some 1) b__law_put
noncomputable def b__law_took : Env → Rs OutZ :=
  (zSeq (zLift none 4 (fSet 2 (fV (fC .none))))
  (zSeq (zTry 4 0 3 2 f_Hall_take (fVarS 1))
  (zRet (zRd none 4 (fSh (fun ρ => fSVar 2 fSNil ρ >>= f__law_told))))))
noncomputable def f__law_took : List Sl → Rs (PyData × List Sl) := fnQ 2 4 0 none b__law_took
noncomputable def b__law_done : Env → Rs OutZ :=
  (zSeq (zIf (zRd none 9 (fOr (fB (fOp eqD (fOp modD (fVarB 3) (fC (.int 3))) (fC (.int 0)))) (fB (fOp gtD (fUn lenD (fVarB 1)) (fC (.int 8))))))
  (zSeq (zLift none 9 (fSet 4 (fV (fOp modD (fOp divD (fVarB 3) (fC (.int 3))) (fOp max2D (fC (.int 1)) (fUn lenD (fVarB 1)))))))
   (zSeq (zLift none 9 (fIf (fB (fOp eqD (fOp modD (fOp divD (fVarB 3) (fC (.int 1000))) (fC (.int 3))) (fC (.int 1))))
   (fSet 4 (fV (fOp ixD (fSh (fUn lstD (fCons (fUn negD (fC (.int 1))) (fCons (fUn lenD (fVarB 1)) (fCons (fSh (fOp addD (fUn lenD (fVarB 1)) (fOp modD (fVarB 3) (fOp powD (fC (.int 10)) (fC (.int 20)))))) fNil))))) (fOp modD (fOp divD (fVarB 3) (fC (.int 3000))) (fC (.int 3))))))
   fSkip))
   (zSeq (zLift none 9 (fSet 5 (fV (fAndV (fOp leD (fC (.int 0)) (fVarB 4)) (fOp ltD (fVarB 4) (fUn lenD (fVarB 1)))))))
   (zSeq (zIf (zB (zOp neD (zCall 9 f__law_took (zACons (zVar (9 + 0)) (zACons (zDat none 9 (fVarS 4)) zANil))) none 9 (fOp ixD (fSh (fUn lstD (fCons (fSh (fUn lstD (fCons (fC (.str "place")) fNil))) (fCons (fSh (fUn lstD fNil)) fNil)))) (fUn int1D (fVarB 5)))))
   (zRet (zRd none 9 (fC (.bool false))))
   zNil)
   (zSeq (zLift none 9 (fIf (fB (fVarS 5))
   (fFz 4 (fPopAt 1 (fVarS 4)))
   fSkip))
   (zRet (zRd none 9 (fC (.bool true)))))))))
  zNil)
  (zSeq (zLift none 9 (fSet 6 (fLend 1 (fCall f__law_row (fCons (fVarS 1) (fCons (fVarS 2) (fCons (fOp divD (fVarB 3) (fC (.int 3))) fNil)))))))
  (zSeq (zLift none 9 (fSet 7 (fUn lstD fNil)))
  (zSeq (zLift none 9 (fIf (fNot (fB (fUn anyD (fSh (fSl (fVarB 6) fNone (fSome (fUn negD (fC (.int 1)))))))))
  (fSet 7 (fUn lstD (fCons (fUn tupD (fCons (fC (.str "wall")) (fCons (fC (.int 0)) fNil))) fNil)))
  (fFz 6 (fIf (fB (fOp inD (fSh (fCall f__law_plain (fCons (fVarS 6) fNil))) (fVarB 1)))
   (fFz 6 (fSet 7 (fUn lstD (fCons (fUn tupD (fCons (fC (.str "wall")) (fCons (fIdx (fVarB 1) (fSh (fCall f__law_plain (fCons (fVarS 6) fNil)))) fNil))) fNil))))
   fSkip))))
  (zSeq (zLift none 9 (fSet 8 (fUn listD (fVarB 6))))
  (zSeq (zIf (zOr (zB (zOp neD (zCall 9 f__law_put (zACons (zVar (9 + 0)) (zACons (zOwn 8) zANil))) none 9 (fVarB 7))) (zRd none 9 (fB (fOp neD (fVarB 8) (fVarB 6)))))
  (zRet (zRd none 9 (fC (.bool false))))
  zNil)
  (zSeq (zLift none 9 (fClr 8))
  (zSeq (zLift none 9 (fIf (fB (fOp eqD (fVarB 7) (fSh (fUn lstD fNil))))
  (fFz 6 (fApp 1 (fSh (fCall f__law_plain (fCons (fVarS 6) fNil)))))
  fSkip))
  (zRet (zRd none 9 (fC (.bool true))))))))))))
noncomputable def f__law_done : List Sl → Rs (PyData × List Sl) := fnQ 4 9 0 (some 1) b__law_done
noncomputable def p1__law_shown : Env → Rs Out :=
  (fIf (fOr (fNot (fB (fUn (isiD "tuple") (fVarB 3)))) (fB (fOp neD (fSh (fLcS (fIt itemsT (fVarS 3)) (tgN 4) (fNot (fB (fSh (fCall f__law_whole (fCons (fVarS 4) fNil))))) (fVarS 4) [4])) (fSh (fUn lstD fNil)))))
   (fRet (fV (fC (.bool false))))
   fSkip)
noncomputable def b__law_shown : Env → Rs Out :=
  (fSeq (fSet 2 (fMet0 0 f_Hall_walls))
  (fSeq (fIf (fOr (fNot (fB (fUn (isiD "list") (fVarB 2)))) (fB (fOp neD (fVarB 2) (fVarB 1))))
  (fRet (fV (fC (.bool false))))
  fSkip)
  (fSeq (fForQ 2 (tgN 3)
  p1__law_shown)
  (fSeq (fApp 2 (fC (.int 0)))
  (fRet (fV (fOp eqD (fSh (fMet0 0 f_Hall_walls)) (fVarB 1))))))))
noncomputable def f__law_shown : List Sl → Rs Sl := fnS 2 5 b__law_shown
noncomputable def p1_law : Env → Rs OutZ :=
  (zSeq (zLift none 8 (fSet 6 (fOp addD (fOp modD (fVarB 5) (fOp powD (fC (.int 10)) (fC (.int 18)))) (fOp mulD (fC (.int 48271)) (fSh (fOp addD (fVarB 4) (fC (.int 1))))))))
   (zSeq (zLift none 8 (fSet 7 (fV (fOp modD (fOp modD (fOp mulD (fVarB 6) (fVarB 6)) (fC (.int 2147483629))) (fC (.int 2))))))
   (zSeq (zIf (zNot (zB (zCall 8 f__law_done (zACons (zSub 0 8 (fVarB 7)) (zACons (zSub 2 8 (fVarB 7)) (zACons (zDat none 8 (fOp ixD (fVarB 1) (fVarB 7))) (zACons (zDat none 8 (fVarS 5)) zANil)))))))
   (zRet (zRd none 8 (fC (.bool false))))
   zNil)
   (zIf (zOr (zNot (zCallR f__law_shown (zACons (zSub 0 8 (fC (.int 0))) (zACons (zSub 2 8 (fC (.int 0))) zANil)))) (zNot (zCallR f__law_shown (zACons (zSub 0 8 (fC (.int 1))) (zACons (zSub 2 8 (fC (.int 1))) zANil)))))
   (zRet (zRd none 8 (fC (.bool false))))
   zNil))))
noncomputable def z_law : Env → Rs OutZ :=
  (zSeq (zForA 8 (fIt enumD (fCons (fSh (fSl (fVarB 0) (fSome (fC (.int 2))) (fSome (fC (.int 32))))) fNil)) (tgT 2 (tgCons (tgN 4) (tgCons (tgN 5) tgNil))) p1_law)
  (zRet (fun S => (zCallR f__law_shown (zACons (zSub 0 8 (fC (.int 0))) (zACons (zSub 2 8 (fC (.int 0))) zANil))) S >>= fun r => .ok (.bool r.1, r.2))))
noncomputable def b_law : Env → Rs Out :=
  (fSeq (fSet 1 (fUn lstD (fCons (fOp modD (fSh (fCall f__law_cell_at (fCons (fVarS 0) (fCons (fC (.int 0)) fNil)))) (fC (.int 5))) (fCons (fOp modD (fSh (fCall f__law_cell_at (fCons (fVarS 0) (fCons (fC (.int 1)) fNil)))) (fC (.int 5))) fNil))))
  (zLaw 8 2 3 (fOp ixD (fVarB 1) (fC (.int 0))) (fOp ixD (fVarB 1) (fC (.int 1))) z_law))
noncomputable def f_law : List PyData → Rs Sl := fnOf 1 8 b_law
/-! ### each def keeps its promise -/
section
variable {P : Program} {w : World} {K : PySem.W.Frag} {mg : Str → Option Value} {base : Heap} {ca : Nat → Addr}
theorem ok_Hall_walls {f : Addr} {fd : FuncData} (T : Blt mg)  (TH : HK K ca) (F : Fun K "walls" "Hall.walls" s_Hall_walls f fd) : FnOk P w K mg base (L2.CX P w) 1 f fd ["self"] (spR ⟨K, ca⟩ (fnS 1 1 b_Hall_walls) 1) :=
  fn_okR (k := 0) F sc_Hall_walls b_Hall_walls fun cdv A outer s H E hr o => ⟨_,
  (jps_one (jp_ret (jv_list (jb_s (js_halS TH 0 (pv 0))) T.b_list)))⟩
theorem ok_Hall_take {f : Addr} {fd : FuncData} (T : Blt mg)  (TX : EX K mg ca) (TH : HK K ca) (F : Fun K "take" "Hall.take" s_Hall_take f fd) : FnOk P w K mg base (L2.CX P w) 1 f fd ["self", "place"] (spP ⟨K, ca⟩ (fnP 2 b_Hall_take)) :=
  fn_okP (k := 0) F sc_Hall_take b_Hall_take fun cdv A outer s H E hr o => ⟨_,
  (jr_cons (jp_if (jt_w (jw_or (jt_cmp op_lt opsem_lt (nomark _) (jb_var 1 (pv 1)) (jb_s js_int)) (jw_or1 (jt_cmp op_ge opsem_ge (nomark _) (jb_var 1 (pv 1)) (jb_s (js_len (jb_s (js_halS TH 0 (pv 0))) T.b_len))))))
  (jps_one (jp_raiseT 3 TX o.calm o.tk))
  jps_nil) (by repeat (first | with_reducible exact keeps_next | with_reducible exact keeps_never | with_reducible exact keeps_ret | with_reducible exact keeps_drop | with_reducible exact keepsG_sub | with_reducible exact keepsG_name (by decide) | with_reducible apply keeps_asg | exact keeps_raise | with_reducible apply keeps_if | with_reducible apply keeps_seq))
  (jr_last TH (jv_add (jb_s (js_v (jv_slice (jb_s (js_halS TH 0 (pv 0))) jo_none (jo_some (jb_var 1 (pv 1)))))) (jb_s (js_v (jv_slice (jb_s (js_halS TH 0 (pv 0))) (jo_some (jb_s (js_v (jv_add (jb_var 1 (pv 1)) (jb_s js_int))))) jo_none)))) (pv 0)))⟩
theorem ok_divisor {f : Addr} {fd : FuncData} (T : Blt mg)  (F : Fun K "divisor" "divisor" s_divisor f fd) : FnOk P w K mg base (L2.CX P w) 1 f fd ["one", "other"] (spF ⟨K, ca⟩ (fnOf 2 2 b_divisor) 2) :=
  fn_ok (k := 0) F sc_divisor b_divisor fun cdv A outer s H E hr o => ⟨_,
  (jps_cons (jp_set (i := 0) (jv_s (js_abs (jb_var 0 (pv 0)) T.b_abs)) o.nd rfl (by first | exact .inl rfl | exact .inr rfl))
  (jps_cons (jp_set (i := 1) (jv_s (js_abs (jb_var 1 (pv 1)) T.b_abs)) o.nd rfl (by first | exact .inl rfl | exact .inr rfl))
  (jps_cons (jp_while (jt_cmp op_gt opsem_gt (nomark _) (jb_var 1 (pv 1)) (jb_s js_int))
  (jps_one (jp_fzF 1 (jp_par (i := 0) (j := 1) (ja_cons (js_var 1 (pv 1)) (ja_cons (js_mod (jb_var 0 (pv 0)) (jb_var 1 (pv 1))) ja_nil)) o.calm o.nd rfl rfl (by decide) rfl rfl))) o.pas)
  (jps_one (jp_retVar 0 (pv 0))))))⟩
theorem ok_plain_wall {f : Addr} {fd : FuncData} (T : Blt mg) (C_divisor : Callee P w K mg base ca "divisor" 1 f_divisor 2) (F : Fun K "plain_wall" "plain_wall" s_plain_wall f fd) : FnOk P w K mg base (L2.CX P w) 2 f fd ["numbers"] (spF ⟨K, ca⟩ (fnOf 1 4 b_plain_wall) 1) :=
  fn_ok (k := 1) F sc_plain_wall b_plain_wall fun cdv A outer s H E hr o => ⟨_,
  (jps_cons (jp_set (i := 1) (jv_s js_int) o.nd rfl (by first | exact .inl rfl | exact .inr rfl))
  (jps_cons (jp_for (ji_list (js_var 0 (pv 0))) (jg_name (i := 2) o.nd rfl (by first | exact .inl rfl | exact .inr rfl))
  (jps_one (jp_fzF 1 (jp_set (i := 1) (jv_call C_divisor (hr.mono (by decide)) o.call (ja_cons (js_var 1 (pv 1)) (ja_cons (js_var 2 (pv 2)) ja_nil))) o.nd rfl (by first | exact .inl rfl | exact .inr rfl)))) o.pas o.calm)
  (jps_cons (by first | exact (jp_setLc (i := 3) (own := [("number", 2)]) o.calm o.nd rfl rfl (sw_true rfl rfl rfl (by decide +kernel)) (ji_listB (jb_s (js_v (jv_slice (jb_var 0 (pv 0)) jo_none (jo_some (jb_s (js_neg (jb_s js_int)))))))) (blkOk_by (show blkC ["numbers", "by", "number", "heads"] (defScope s_plain_wall) _ _ = true by first | decide +kernel | rfl)) (fun _ _ _ _ _ => by exact (jg_name (i := 2) o.nd rfl (by first | exact .inl rfl | exact .inr rfl))) (fun _ _ _ _ _ => by exact (jc_one (by exact (jt_cmp (op_neD (by exact o.u64)) opsem_ne (nomark _) (jb_var 2 (pv 2)) (jb_s js_int))))) (fun _ _ _ _ _ => by exact (js_var 2 (pv 2))) (by decide) s H) | exact (jp_set (i := 3) (jv_lc (own := [("number", 2)]) o.calm o.nd (ji_listB (jb_s (js_v (jv_slice (jb_var 0 (pv 0)) jo_none (jo_some (jb_s (js_neg (jb_s js_int)))))))) (blkOk_by (show blkC ["numbers", "by", "number", "heads"] (defScope s_plain_wall) _ _ = true by first | decide +kernel | rfl)) (fun _ _ _ _ _ => by exact (jg_name (i := 2) o.nd rfl (by first | exact .inl rfl | exact .inr rfl))) (fun _ _ _ _ _ => by exact (jc_one (by exact (jt_cmp (op_neD (by exact o.u64)) opsem_ne (nomark _) (jb_var 2 (pv 2)) (jb_s js_int))))) (fun _ _ _ _ _ => by exact (js_var 2 (pv 2))) (by decide) s H) o.nd rfl (by first | exact .inl rfl | exact .inr rfl)))
  (jps_cons (jp_if (jt_cmp op_lt opsem_lt (nomark _) (jb_s (js_ix (jb_var 3 (pv 3)) (jb_s js_int))) (jb_s js_int))
  (jps_one (jp_set (i := 1) (jv_s (js_sub (jb_s js_int) (jb_var 1 (pv 1)))) o.nd rfl (by first | exact .inl rfl | exact .inr rfl)))
  jps_nil)
  (jps_one (jp_ret (jv_s (js_tuplec (jb_s (js_v (jv_lc (own := [("number", 2)]) o.calm o.nd (ji_listB (jb_var 0 (pv 0))) (blkOk_by (show blkC ["numbers", "by", "number", "heads"] (defScope s_plain_wall) _ _ = true by first | decide +kernel | rfl)) (fun _ _ _ _ _ => by exact (jg_name (i := 2) o.nd rfl (by first | exact .inl rfl | exact .inr rfl))) (fun _ _ _ _ _ => by exact jc_nil) (fun _ _ _ _ _ => by exact (js_div (jb_var 2 (pv 2)) (jb_var 1 (pv 1)))) (by decide) s H))) T.b_tuple))))))))⟩
theorem ok_wall {f : Addr} {fd : FuncData} (T : Blt mg) (C_plain_wall : Callee P w K mg base ca "plain_wall" 2 f_plain_wall 1) (TX : EX K mg ca) (NX : NW P w K mg base ca) (F : Fun K "wall" "wall" s_wall f fd) : FnOk P w K mg base (L2.CX P w) 3 f fd ["numbers"] (spF ⟨K, ca⟩ (fnOf 1 1 b_wall) 1) :=
  fn_ok (k := 2) F sc_wall b_wall fun cdv A outer s H E hr o => ⟨_,
  (jps_cons (jp_if (jt_not (jt_val (js_any (jb_s (js_v (jv_slice (jb_var 0 (pv 0)) jo_none (jo_some (jb_s (js_neg (jb_s js_int))))))) T.b_any o.calm)))
  (jps_one (jp_raiseP TX NX (hr.mono (by decide)) o.calm o.tk js_int))
  jps_nil)
  (jps_one (jp_ret (jv_call C_plain_wall (hr.mono (by decide)) o.call (ja_cons (js_var 0 (pv 0)) ja_nil)))))⟩
theorem ok_Hall_put {f : Addr} {fd : FuncData} (T : Blt mg) (C_wall : Callee P w K mg base ca "wall" 3 f_wall 1) (TX : EX K mg ca) (NX : NW P w K mg base ca) (TH : HK K ca) (F : Fun K "put" "Hall.put" s_Hall_put f fd) : FnOk P w K mg base (L2.CX P w) 4 f fd ["self", "numbers"] (spP ⟨K, ca⟩ (fnP 3 b_Hall_put)) :=
  fn_okP (k := 3) F sc_Hall_put b_Hall_put fun cdv A outer s H E hr o => ⟨_,
  (jr_cons (jp_set (i := 2) (jv_call C_wall (hr.mono (by decide)) o.call (ja_cons (js_var 1 (pv 1)) ja_nil)) o.nd rfl (by first | exact .inl rfl | exact .inr rfl)) (by repeat (first | with_reducible exact keeps_next | with_reducible exact keeps_never | with_reducible exact keeps_ret | with_reducible exact keeps_drop | with_reducible exact keepsG_sub | with_reducible exact keepsG_name (by decide) | with_reducible apply keeps_asg | exact keeps_raise | with_reducible apply keeps_if | with_reducible apply keeps_seq))
  (jr_cons (jp_if (jt_cmp (op_inD (by exact o.u65)) opsem_in (by with_unfolding_all rfl) (jb_var 2 (pv 2)) (jb_s (js_halS TH 0 (pv 0))))
  (jps_one (jp_raiseP TX NX (hr.mono (by decide)) o.calm o.tk (js_index (by exact o.u65) (jb_s (js_halS TH 0 (pv 0))) (jb_var 2 (pv 2)))))
  jps_nil) (by repeat (first | with_reducible exact keeps_next | with_reducible exact keeps_never | with_reducible exact keeps_ret | with_reducible exact keeps_drop | with_reducible exact keepsG_sub | with_reducible exact keepsG_name (by decide) | with_reducible apply keeps_asg | exact keeps_raise | with_reducible apply keeps_if | with_reducible apply keeps_seq))
  (jr_last TH (jv_add (jb_s (js_halS TH 0 (pv 0))) (jb_s (js_v (jv_lst (ja_cons (js_var 2 (pv 2)) ja_nil))))) (pv 0))))⟩
theorem ok__law_cell_at {f : Addr} {fd : FuncData} (T : Blt mg)  (F : Fun K "_law_cell_at" "_law_cell_at" s__law_cell_at f fd) : FnOk P w K mg base (L2.CX P w) 1 f fd ["_law_script", "_law_k"] (spF ⟨K, ca⟩ (fnOf 2 2 b__law_cell_at) 2) :=
  fn_ok (k := 0) F sc__law_cell_at b__law_cell_at fun cdv A outer s H E hr o => ⟨_,
  (jps_cons (jp_if (jt_cmp op_lt opsem_lt (nomark _) (jb_var 1 (pv 1)) (jb_s (js_len (jb_var 0 (pv 0)) T.b_len)))
  (jps_one (jp_ret (jv_s (js_ix (jb_var 0 (pv 0)) (jb_var 1 (pv 1))))))
  jps_nil)
  (jps_one (jp_ret (jv_s js_int))))⟩
theorem ok__law_whole {f : Addr} {fd : FuncData} (T : Blt mg)  (F : Fun K "_law_whole" "_law_whole" s__law_whole f fd) : FnOk P w K mg base (L2.CX P w) 1 f fd ["_law_found"] (spF ⟨K, ca⟩ (fnOf 1 1 b__law_whole) 1) :=
  fn_ok (k := 0) F sc__law_whole b__law_whole fun cdv A outer s H E hr o => ⟨_,
  (jps_one (jp_ret (jv_s (js_and (js_isi "int" (jb_var 0 (pv 0)) T.b_isinstance T.b_int (by decide +kernel)) (js_one (js_not (js_isi "bool" (jb_var 0 (pv 0)) T.b_isinstance T.b_bool (by decide +kernel))))))))⟩
theorem ok__law_divisor {f : Addr} {fd : FuncData} (T : Blt mg)  (F : Fun K "_law_divisor" "_law_divisor" s__law_divisor f fd) : FnOk P w K mg base (L2.CX P w) 1 f fd ["_law_one", "_law_other"] (spF ⟨K, ca⟩ (fnOf 2 2 b__law_divisor) 2) :=
  fn_ok (k := 0) F sc__law_divisor b__law_divisor fun cdv A outer s H E hr o => ⟨_,
  (jps_cons (jp_set (i := 0) (jv_s (js_abs (jb_var 0 (pv 0)) T.b_abs)) o.nd rfl (by first | exact .inl rfl | exact .inr rfl))
  (jps_cons (jp_set (i := 1) (jv_s (js_abs (jb_var 1 (pv 1)) T.b_abs)) o.nd rfl (by first | exact .inl rfl | exact .inr rfl))
  (jps_cons (jp_while (jt_cmp op_gt opsem_gt (nomark _) (jb_var 1 (pv 1)) (jb_s js_int))
  (jps_one (jp_fzF 1 (jp_par (i := 0) (j := 1) (ja_cons (js_var 1 (pv 1)) (ja_cons (js_mod (jb_var 0 (pv 0)) (jb_var 1 (pv 1))) ja_nil)) o.calm o.nd rfl rfl (by decide) rfl rfl))) o.pas)
  (jps_one (jp_retVar 0 (pv 0))))))⟩
theorem ok__law_plain {f : Addr} {fd : FuncData} (T : Blt mg) (C__law_divisor : Callee P w K mg base ca "_law_divisor" 1 f__law_divisor 2) (F : Fun K "_law_plain" "_law_plain" s__law_plain f fd) : FnOk P w K mg base (L2.CX P w) 2 f fd ["_law_row_here"] (spF ⟨K, ca⟩ (fnOf 1 4 b__law_plain) 1) :=
  fn_ok (k := 1) F sc__law_plain b__law_plain fun cdv A outer s H E hr o => ⟨_,
  (jps_cons (jp_set (i := 1) (jv_s js_int) o.nd rfl (by first | exact .inl rfl | exact .inr rfl))
  (jps_cons (jp_set (i := 2) (jv_s js_int) o.nd rfl (by first | exact .inl rfl | exact .inr rfl))
  (jps_cons (jp_for (ji_list (js_var 0 (pv 0))) (jg_name (i := 3) o.nd rfl (by first | exact .inl rfl | exact .inr rfl))
  (jps_cons (jp_fzF 1 (jp_set (i := 1) (jv_call C__law_divisor (hr.mono (by decide)) o.call (ja_cons (js_var 1 (pv 1)) (ja_cons (js_var 3 (pv 3)) ja_nil))) o.nd rfl (by first | exact .inl rfl | exact .inr rfl)))
   (jps_one (jp_if (jt_cmp (op_eqD (by exact o.u64)) opsem_eq (nomark _) (jb_var 2 (pv 2)) (jb_s js_int))
   (jps_one (jp_set (i := 2) (jv_s (js_var 3 (pv 3))) o.nd rfl (by first | exact .inl rfl | exact .inr rfl)))
   jps_nil))) o.pas o.calm)
  (jps_cons (jp_if (jt_cmp op_lt opsem_lt (nomark _) (jb_var 2 (pv 2)) (jb_s js_int))
  (jps_one (jp_set (i := 1) (jv_s (js_sub (jb_s js_int) (jb_var 1 (pv 1)))) o.nd rfl (by first | exact .inl rfl | exact .inr rfl)))
  jps_nil)
  (jps_one (jp_ret (jv_s (js_tuplec (jb_s (js_v (jv_lc (own := [("_law_number", 3)]) o.calm o.nd (ji_listB (jb_var 0 (pv 0))) (blkOk_by (show blkC ["_law_row_here", "_law_by", "_law_lead", "_law_number"] (defScope s__law_plain) _ _ = true by first | decide +kernel | rfl)) (fun _ _ _ _ _ => by exact (jg_name (i := 3) o.nd rfl (by first | exact .inl rfl | exact .inr rfl))) (fun _ _ _ _ _ => by exact jc_nil) (fun _ _ _ _ _ => by exact (js_div (jb_var 3 (pv 3)) (jb_var 1 (pv 1)))) (by decide) s H))) T.b_tuple))))))))⟩
theorem ok__law_row {f : Addr} {fd : FuncData} (T : Blt mg)  (F : Fun K "_law_row" "_law_row" s__law_row f fd) : FnOk P w K mg base (L2.CX P w) 1 f fd ["_law_standing", "_law_ways", "_law_cell"] (spF ⟨K, ca⟩ (fnOf 3 8 b__law_row) 3) :=
  fn_ok (k := 0) F sc__law_row b__law_row fun cdv A outer s H E hr o => ⟨_,
  (jps_cons (jp_set (i := 3) (jv_lst ja_nil) o.nd rfl (by first | exact .inl rfl | exact .inr rfl))
  (jps_cons (jp_set (i := 4) (jv_s (js_var 2 (pv 2))) o.nd rfl (by first | exact .inl rfl | exact .inr rfl))
  (jps_cons (jp_for (ji_range1 (ja_cons (js_v (jv_add (jb_var 1 (pv 1)) (jb_s js_int))) ja_nil) T.b_range) (jg_name (i := 5) o.nd rfl (by first | exact .inl rfl | exact .inr rfl))
  (jps_cons (jp_append 3 (pv 3) (js_sub (jb_s (js_mod (jb_var 4 (pv 4)) (jb_s js_int))) (jb_s js_int)))
   (jps_one (jp_set (i := 4) (jv_s (js_div (jb_var 4 (pv 4)) (jb_s js_int))) o.nd rfl (by first | exact .inl rfl | exact .inr rfl)))) o.pas o.calm)
  (jps_cons (jp_set (i := 6) (jv_s (js_mod (jb_var 4 (pv 4)) (jb_s js_int))) o.nd rfl (by first | exact .inl rfl | exact .inr rfl))
  (jps_cons (jp_if (jt_cmp (op_eqD (by exact o.u64)) opsem_eq (nomark _) (jb_var 6 (pv 6)) (jb_s js_int))
  (jps_one (by first | exact (jp_setLc (i := 3) (own := [("_law_part", 7)]) o.calm o.nd rfl rfl (sw_true rfl rfl rfl (by decide +kernel)) (ji_listB (jb_var 3 (pv 3))) (blkOk_by (show blkC ["_law_standing", "_law_ways", "_law_cell", "_law_row_here", "_law_number", "_law_k", "_law_way", "_law_part"] (defScope s__law_row) _ _ = true by first | decide +kernel | rfl)) (fun _ _ _ _ _ => by exact (jg_name (i := 7) o.nd rfl (by first | exact .inl rfl | exact .inr rfl))) (fun _ _ _ _ _ => by exact jc_nil) (fun _ _ _ _ _ => by exact (js_mul (jb_var 7 (pv 7)) (jb_s (js_v (jv_add (jb_s js_int) (jb_s (js_mod (jb_s (js_div (jb_var 4 (pv 4)) (jb_s js_int))) (jb_s (js_pow (jb_s js_int) (jb_s js_int)))))))))) (by decide) s H) | exact (jp_set (i := 3) (jv_lc (own := [("_law_part", 7)]) o.calm o.nd (ji_listB (jb_var 3 (pv 3))) (blkOk_by (show blkC ["_law_standing", "_law_ways", "_law_cell", "_law_row_here", "_law_number", "_law_k", "_law_way", "_law_part"] (defScope s__law_row) _ _ = true by first | decide +kernel | rfl)) (fun _ _ _ _ _ => by exact (jg_name (i := 7) o.nd rfl (by first | exact .inl rfl | exact .inr rfl))) (fun _ _ _ _ _ => by exact jc_nil) (fun _ _ _ _ _ => by exact (js_mul (jb_var 7 (pv 7)) (jb_s (js_v (jv_add (jb_s js_int) (jb_s (js_mod (jb_s (js_div (jb_var 4 (pv 4)) (jb_s js_int))) (jb_s (js_pow (jb_s js_int) (jb_s js_int)))))))))) (by decide) s H) o.nd rfl (by first | exact .inl rfl | exact .inr rfl))))
  jps_nil)
  (jps_cons (jp_if (jt_cmp (op_eqD (by exact o.u64)) opsem_eq (nomark _) (jb_var 6 (pv 6)) (jb_s js_int))
  (jps_one (jp_set (i := 3) (jv_add (jb_s (js_v (jv_lc (own := [("_law_k", 5)]) o.calm o.nd (ji_range1 (ja_cons (js_var 1 (pv 1)) ja_nil) T.b_range) (blkOk_by (show blkC ["_law_standing", "_law_ways", "_law_cell", "_law_row_here", "_law_number", "_law_k", "_law_way", "_law_part"] (defScope s__law_row) _ _ = true by first | decide +kernel | rfl)) (fun _ _ _ _ _ => by exact (jg_name (i := 5) o.nd rfl (by first | exact .inl rfl | exact .inr rfl))) (fun _ _ _ _ _ => by exact jc_nil) (fun _ _ _ _ _ => by exact js_int) (by decide) s H))) (jb_s (js_v (jv_slice (jb_var 3 (pv 3)) (jo_some (jb_s (js_neg (jb_s js_int)))) jo_none)))) o.nd rfl (by first | exact .inl rfl | exact .inr rfl)))
  jps_nil)
  (jps_cons (jp_if (jt_w (jw_and (jt_cmp (op_eqD (by exact o.u64)) opsem_eq (nomark _) (jb_var 6 (pv 6)) (jb_s js_int)) (jw_and1 (jt_cmp (op_neD (by exact o.u64)) opsem_ne (nomark _) (jb_var 0 (pv 0)) (jb_s (js_v (jv_lst ja_nil)))))))
  (jps_one (by first | exact (jp_setLc (i := 3) (own := [("_law_part", 7)]) o.calm o.nd rfl rfl (sw_true rfl rfl rfl (by decide +kernel)) (ji_tup (js_ix (jb_var 0 (pv 0)) (jb_s (js_mod (jb_s (js_div (jb_var 4 (pv 4)) (jb_s js_int))) (jb_s (js_len (jb_var 0 (pv 0)) T.b_len)))))) (blkOk_by (show blkC ["_law_standing", "_law_ways", "_law_cell", "_law_row_here", "_law_number", "_law_k", "_law_way", "_law_part"] (defScope s__law_row) _ _ = true by first | decide +kernel | rfl)) (fun _ _ _ _ _ => by exact (jg_name (i := 7) o.nd rfl (by first | exact .inl rfl | exact .inr rfl))) (fun _ _ _ _ _ => by exact jc_nil) (fun _ _ _ _ _ => by exact (js_sub (jb_s js_int) (jb_var 7 (pv 7)))) (by decide) s H) | exact (jp_set (i := 3) (jv_lc (own := [("_law_part", 7)]) o.calm o.nd (ji_tup (js_ix (jb_var 0 (pv 0)) (jb_s (js_mod (jb_s (js_div (jb_var 4 (pv 4)) (jb_s js_int))) (jb_s (js_len (jb_var 0 (pv 0)) T.b_len)))))) (blkOk_by (show blkC ["_law_standing", "_law_ways", "_law_cell", "_law_row_here", "_law_number", "_law_k", "_law_way", "_law_part"] (defScope s__law_row) _ _ = true by first | decide +kernel | rfl)) (fun _ _ _ _ _ => by exact (jg_name (i := 7) o.nd rfl (by first | exact .inl rfl | exact .inr rfl))) (fun _ _ _ _ _ => by exact jc_nil) (fun _ _ _ _ _ => by exact (js_sub (jb_s js_int) (jb_var 7 (pv 7)))) (by decide) s H) o.nd rfl (by first | exact .inl rfl | exact .inr rfl))))
  jps_nil)
  (jps_one (jp_retVar 3 (pv 3))))))))))⟩
theorem ok__law_told {f : Addr} {fd : FuncData} (T : Blt mg) (C__law_whole : Callee P w K mg base ca "_law_whole" 1 f__law_whole 1) (TX : EX K mg ca) (noP : PySem.W.findIn K (.ref (ca 5)) "place" = some none) (F : Fun K "_law_told" "_law_told" s__law_told f fd) : FnOk P w K mg base (L2.CX P w) 2 f fd ["_law_caught"] (spR ⟨K, ca⟩ (fnS 1 2 b__law_told) 1) :=
  fn_okR (k := 1) F sc__law_told b__law_told fun cdv A outer s H E hr o => ⟨_,
  (jps_cons (jp_if (jt_noneV 0 (pv 0))
  (jps_one (jp_ret (jv_lst ja_nil)))
  jps_nil)
  (jps_cons (jp_if (jt_w (jw_or (jt_val (js_isET 0 (js := [4, 2, 1]) TX (pv 0) (jn_cons 4 TX (jn_cons 2 TX (jn_cons 1 TX jn_nil))) T.b_isinstance)) (jw_or1 (jt_not (jt_val (js_isVE 0 TX (pv 0) T.b_isinstance T.b_ValueError))))))
  (jps_one (jp_ret (jv_lst (ja_cons js_str ja_nil))))
  jps_nil)
  (jps_cons (jp_set (i := 1) (jv_lst ja_nil) o.nd rfl (by first | exact .inl rfl | exact .inr rfl))
  (jps_cons (jp_if (jt_w (jw_and (jt_val (js_isE 0 5 TX (pv 0) T.b_isinstance)) (jw_and1 (jt_val (js_v (jv_call C__law_whole (hr.mono (by decide)) o.call (ja_cons (js_place 0 TX noP (pv 0)) ja_nil)))))))
  (jps_one (jp_append 1 (pv 1) (js_tup (ja_cons js_str (ja_cons (js_place 0 TX noP (pv 0)) ja_nil)))))
  jps_nil)
  (jps_cons (jp_if (jt_val (js_isE 0 3 TX (pv 0) T.b_isinstance))
  (jps_one (jp_append 1 (pv 1) js_str))
  jps_nil)
  (jps_one (jp_retVar 1 (pv 1))))))))⟩
theorem ok__law_put {f : Addr} {fd : FuncData} (T : Blt mg) (M_Hall_put : MetP P w K mg base ca "put" 4 f_Hall_put) (CR__law_told : CalleeR P w K mg base ca "_law_told" 2 f__law_told 1) (TX : EX K mg ca) (F : Fun K "_law_put" "_law_put" s__law_put f fd) : FnOk P w K mg base (L2.CX P w) 5 f fd ["_law_hall", "_law_row_here"] (spQ ⟨K, ca⟩ (fnQ 2 4 0 (some 1) b__law_put) 2) :=
  fn_okZ (k := 4) 0 (some 1) F sc__law_put b__law_put fun cdv A outer s H E hr o => ⟨_,
  (zj_cons (zj_lift (E := E) none (jp_set (i := 2) (jv_s js_non) o.nd rfl (by first | exact .inl rfl | exact .inr rfl)) (keeps_two' (by repeat (first | with_reducible exact keeps_next | with_reducible exact keeps_never | with_reducible exact keeps_ret | with_reducible exact keeps_drop | with_reducible exact keepsG_sub | with_reducible exact keepsG_name (by decide) | with_reducible apply keeps_asg | with_reducible apply keeps_if | with_reducible apply keeps_seq | with_reducible apply keeps_for)) (by repeat (first | with_reducible exact keeps_next | with_reducible exact keeps_never | with_reducible exact keeps_ret | with_reducible exact keeps_drop | with_reducible exact keepsG_sub | with_reducible exact keepsG_name (by decide) | with_reducible apply keeps_asg | with_reducible apply keeps_if | with_reducible apply keeps_seq | with_reducible apply keeps_for))) (fun _ h => nomatch h))
  (zj_cons (zj_tryL 0 0 3 2 1 TX M_Hall_put (hr.mono (by decide)) (fun _ _ => pv 0) List.mem_cons_self (fun _ _ => pv 1) (by decide) o.nd rfl rfl rfl rfl (by decide))
  (zj_one (zj_ret (vz_s (E := E) none (js_v (jv_callR CR__law_told (hr.mono (by decide)) o.call (jas_var 2 (pv 2) jas_nil))) (fun _ h => nomatch h))))))⟩
theorem ok__law_took {f : Addr} {fd : FuncData} (T : Blt mg) (M_Hall_take : MetP P w K mg base ca "take" 1 f_Hall_take) (CR__law_told : CalleeR P w K mg base ca "_law_told" 2 f__law_told 1) (TX : EX K mg ca) (F : Fun K "_law_took" "_law_took" s__law_took f fd) : FnOk P w K mg base (L2.CX P w) 3 f fd ["_law_hall", "_law_place"] (spQ ⟨K, ca⟩ (fnQ 2 4 0 none b__law_took) 2) :=
  fn_okZ (k := 2) 0 none F sc__law_took b__law_took fun cdv A outer s H E hr o => ⟨_,
  (zj_cons (zj_lift (E := E) none (jp_set (i := 2) (jv_s js_non) o.nd rfl (by first | exact .inl rfl | exact .inr rfl)) (keeps_one (by repeat (first | with_reducible exact keeps_next | with_reducible exact keeps_never | with_reducible exact keeps_ret | with_reducible exact keeps_drop | with_reducible exact keepsG_sub | with_reducible exact keepsG_name (by decide) | with_reducible apply keeps_asg | with_reducible apply keeps_if | with_reducible apply keeps_seq | with_reducible apply keeps_for))) (fun _ h => nomatch h))
  (zj_cons (zj_try 0 0 3 2 TX M_Hall_take (hr.mono (by decide)) (fun _ _ => pv 0) List.mem_cons_self (fun _ _ _ => (js_var 1 (pv 1))) o.nd rfl rfl rfl rfl (by decide))
  (zj_one (zj_ret (vz_s (E := E) none (js_v (jv_callR CR__law_told (hr.mono (by decide)) o.call (jas_var 2 (pv 2) jas_nil))) (fun _ h => nomatch h))))))⟩
theorem ok__law_done {f : Addr} {fd : FuncData} (T : Blt mg) (C__law_plain : Callee P w K mg base ca "_law_plain" 2 f__law_plain 1) (C__law_row : Callee P w K mg base ca "_law_row" 1 f__law_row 3) (CQ__law_put : CalleeQ P w K mg base ca "_law_put" 5 f__law_put 2) (CQ__law_took : CalleeQ P w K mg base ca "_law_took" 3 f__law_took 2) (F : Fun K "_law_done" "_law_done" s__law_done f fd) : FnOk P w K mg base (L2.CX P w) 6 f fd ["_law_hall", "_law_standing", "_law_ways", "_law_cell"] (spQ ⟨K, ca⟩ (fnQ 4 9 0 (some 1) b__law_done) 4) :=
  fn_okZ (k := 5) 0 (some 1) F sc__law_done b__law_done fun cdv A outer s H E hr o => ⟨_,
  (zj_cons (zj_if (tz_t (E := E) none (jt_w (jw_or (jt_cmp (op_eqD (by exact o.u64)) opsem_eq (nomark _) (jb_s (js_mod (jb_var 3 (pv 3)) (jb_s js_int))) (jb_s js_int)) (jw_or1 (jt_cmp op_gt opsem_gt (nomark _) (jb_s (js_len (jb_var 1 (pv 1)) T.b_len)) (jb_s js_int))))) (fun _ h => nomatch h))
  (zj_cons (zj_lift (E := E) none (jp_set (i := 4) (jv_s (js_mod (jb_s (js_div (jb_var 3 (pv 3)) (jb_s js_int))) (jb_s (js_max (jb_s js_int) (jb_s (js_len (jb_var 1 (pv 1)) T.b_len)) T.b_max o.calm)))) o.nd rfl (by first | exact .inl rfl | exact .inr rfl)) (keeps_two' (by repeat (first | with_reducible exact keeps_next | with_reducible exact keeps_never | with_reducible exact keeps_ret | with_reducible exact keeps_drop | with_reducible exact keepsG_sub | with_reducible exact keepsG_name (by decide) | with_reducible apply keeps_asg | with_reducible apply keeps_if | with_reducible apply keeps_seq | with_reducible apply keeps_for)) (by repeat (first | with_reducible exact keeps_next | with_reducible exact keeps_never | with_reducible exact keeps_ret | with_reducible exact keeps_drop | with_reducible exact keepsG_sub | with_reducible exact keepsG_name (by decide) | with_reducible apply keeps_asg | with_reducible apply keeps_if | with_reducible apply keeps_seq | with_reducible apply keeps_for))) (fun _ h => nomatch h))
   (zj_cons (zj_lift (E := E) none (jp_if (jt_cmp (op_eqD (by exact o.u64)) opsem_eq (nomark _) (jb_s (js_mod (jb_s (js_div (jb_var 3 (pv 3)) (jb_s js_int))) (jb_s js_int))) (jb_s js_int))
   (jps_one (jp_set (i := 4) (jv_s (js_ix (jb_s (js_v (jv_lst (ja_cons (js_neg (jb_s js_int)) (ja_cons (js_len (jb_var 1 (pv 1)) T.b_len) (ja_cons (js_v (jv_add (jb_s (js_len (jb_var 1 (pv 1)) T.b_len)) (jb_s (js_mod (jb_var 3 (pv 3)) (jb_s (js_pow (jb_s js_int) (jb_s js_int))))))) ja_nil)))))) (jb_s (js_mod (jb_s (js_div (jb_var 3 (pv 3)) (jb_s js_int))) (jb_s js_int))))) o.nd rfl (by first | exact .inl rfl | exact .inr rfl)))
   jps_nil) (keeps_two' (by repeat (first | with_reducible exact keeps_next | with_reducible exact keeps_never | with_reducible exact keeps_ret | with_reducible exact keeps_drop | with_reducible exact keepsG_sub | with_reducible exact keepsG_name (by decide) | with_reducible apply keeps_asg | with_reducible apply keeps_if | with_reducible apply keeps_seq | with_reducible apply keeps_for)) (by repeat (first | with_reducible exact keeps_next | with_reducible exact keeps_never | with_reducible exact keeps_ret | with_reducible exact keeps_drop | with_reducible exact keepsG_sub | with_reducible exact keepsG_name (by decide) | with_reducible apply keeps_asg | with_reducible apply keeps_if | with_reducible apply keeps_seq | with_reducible apply keeps_for))) (fun _ h => nomatch h))
   (zj_cons (zj_lift (E := E) none (jp_set (i := 5) (jv_s (js_and (js_cmp op_le opsem_le (nomark _) (jb_s js_int) (jb_var 4 (pv 4))) (js_one (js_cmp op_lt opsem_lt (nomark _) (jb_var 4 (pv 4)) (jb_s (js_len (jb_var 1 (pv 1)) T.b_len)))))) o.nd rfl (by first | exact .inl rfl | exact .inr rfl)) (keeps_two' (by repeat (first | with_reducible exact keeps_next | with_reducible exact keeps_never | with_reducible exact keeps_ret | with_reducible exact keeps_drop | with_reducible exact keepsG_sub | with_reducible exact keepsG_name (by decide) | with_reducible apply keeps_asg | with_reducible apply keeps_if | with_reducible apply keeps_seq | with_reducible apply keeps_for)) (by repeat (first | with_reducible exact keeps_next | with_reducible exact keeps_never | with_reducible exact keeps_ret | with_reducible exact keeps_drop | with_reducible exact keepsG_sub | with_reducible exact keepsG_name (by decide) | with_reducible apply keeps_asg | with_reducible apply keeps_if | with_reducible apply keeps_seq | with_reducible apply keeps_for))) (fun _ h => nomatch h))
   (zj_cons (zj_if (vz_op (E := E) none (op_neD (by exact o.u64)) (opsem_ne (c := ⟨K, ca⟩)) (nomark _) (vz_callQ CQ__law_took (hr.mono (by decide)) o.call (az_cons (gz_kept 0 0 (pv 0) List.mem_cons_self) (az_cons (gz_js (E := E) none (js_var 4 (pv 4)) (fun _ h => nomatch h)) az_nil))) (jb_s (js_ix (jb_s (js_v (jv_lst (ja_cons (js_v (jv_lst (ja_cons js_str ja_nil))) (ja_cons (js_v (jv_lst ja_nil)) ja_nil))))) (jb_s (js_intc (jb_var 5 (pv 5)) T.b_int)))) (fun _ h => nomatch h))
   (zj_one (zj_ret (vz_s (E := E) none js_bl (fun _ h => nomatch h))))
   zj_nil)
   (zj_cons (zj_lift (E := E) none (jp_if (jt_val (js_var 5 (pv 5)))
   (jps_one (jp_fzF 4 (jp_popAt 1 (pv 1) (js_var 4 (pv 4)))))
   jps_nil) (keeps_two' (by repeat (first | with_reducible exact keeps_next | with_reducible exact keeps_never | with_reducible exact keeps_ret | with_reducible exact keeps_drop | with_reducible exact keepsG_sub | with_reducible exact keepsG_name (by decide) | with_reducible apply keeps_asg | with_reducible apply keeps_if | with_reducible apply keeps_seq | with_reducible apply keeps_for)) (by repeat (first | with_reducible exact keeps_next | with_reducible exact keeps_never | with_reducible exact keeps_ret | with_reducible exact keeps_drop | with_reducible exact keepsG_sub | with_reducible exact keepsG_name (by decide) | with_reducible apply keeps_asg | with_reducible apply keeps_if | with_reducible apply keeps_seq | with_reducible apply keeps_for))) (fun _ h => nomatch h))
   (zj_one (zj_ret (vz_s (E := E) none js_bl (fun _ h => nomatch h)))))))))
  zj_nil)
  (zj_cons (zj_lift (E := E) none (jp_set (i := 6) (jv_lend 1 (jv_call C__law_row (hr.mono (by decide)) o.call (ja_cons (js_var 1 (pv 1)) (ja_cons (js_var 2 (pv 2)) (ja_cons (js_div (jb_var 3 (pv 3)) (jb_s js_int)) ja_nil))))) o.nd rfl (by first | exact .inl rfl | exact .inr rfl)) (keeps_two' (by repeat (first | with_reducible exact keeps_next | with_reducible exact keeps_never | with_reducible exact keeps_ret | with_reducible exact keeps_drop | with_reducible exact keepsG_sub | with_reducible exact keepsG_name (by decide) | with_reducible apply keeps_asg | with_reducible apply keeps_if | with_reducible apply keeps_seq | with_reducible apply keeps_for)) (by repeat (first | with_reducible exact keeps_next | with_reducible exact keeps_never | with_reducible exact keeps_ret | with_reducible exact keeps_drop | with_reducible exact keepsG_sub | with_reducible exact keepsG_name (by decide) | with_reducible apply keeps_asg | with_reducible apply keeps_if | with_reducible apply keeps_seq | with_reducible apply keeps_for))) (fun _ h => nomatch h))
  (zj_cons (zj_lift (E := E) none (jp_set (i := 7) (jv_lst ja_nil) o.nd rfl (by first | exact .inl rfl | exact .inr rfl)) (keeps_two' (by repeat (first | with_reducible exact keeps_next | with_reducible exact keeps_never | with_reducible exact keeps_ret | with_reducible exact keeps_drop | with_reducible exact keepsG_sub | with_reducible exact keepsG_name (by decide) | with_reducible apply keeps_asg | with_reducible apply keeps_if | with_reducible apply keeps_seq | with_reducible apply keeps_for)) (by repeat (first | with_reducible exact keeps_next | with_reducible exact keeps_never | with_reducible exact keeps_ret | with_reducible exact keeps_drop | with_reducible exact keepsG_sub | with_reducible exact keepsG_name (by decide) | with_reducible apply keeps_asg | with_reducible apply keeps_if | with_reducible apply keeps_seq | with_reducible apply keeps_for))) (fun _ h => nomatch h))
  (zj_cons (zj_lift (E := E) none (jp_if (jt_not (jt_val (js_any (jb_s (js_v (jv_slice (jb_var 6 (pv 6)) jo_none (jo_some (jb_s (js_neg (jb_s js_int))))))) T.b_any o.calm)))
  (jps_one (jp_set (i := 7) (jv_lst (ja_cons (js_tup (ja_cons js_str (ja_cons js_int ja_nil))) ja_nil)) o.nd rfl (by first | exact .inl rfl | exact .inr rfl)))
  (jps_one (jp_fzF 6 (jp_if (jt_cmp (op_inD (by exact o.u65)) opsem_in (by with_unfolding_all rfl) (jb_s (js_v (jv_call C__law_plain (hr.mono (by decide)) o.call (ja_cons (js_var 6 (pv 6)) ja_nil)))) (jb_var 1 (pv 1)))
   (jps_one (jp_fzF 6 (jp_set (i := 7) (jv_lst (ja_cons (js_tup (ja_cons js_str (ja_cons (js_index (by exact o.u65) (jb_var 1 (pv 1)) (jb_s (js_v (jv_call C__law_plain (hr.mono (by decide)) o.call (ja_cons (js_var 6 (pv 6)) ja_nil))))) ja_nil))) ja_nil)) o.nd rfl (by first | exact .inl rfl | exact .inr rfl))))
   jps_nil)))) (keeps_two' (by repeat (first | with_reducible exact keeps_next | with_reducible exact keeps_never | with_reducible exact keeps_ret | with_reducible exact keeps_drop | with_reducible exact keepsG_sub | with_reducible exact keepsG_name (by decide) | with_reducible apply keeps_asg | with_reducible apply keeps_if | with_reducible apply keeps_seq | with_reducible apply keeps_for)) (by repeat (first | with_reducible exact keeps_next | with_reducible exact keeps_never | with_reducible exact keeps_ret | with_reducible exact keeps_drop | with_reducible exact keepsG_sub | with_reducible exact keepsG_name (by decide) | with_reducible apply keeps_asg | with_reducible apply keeps_if | with_reducible apply keeps_seq | with_reducible apply keeps_for))) (fun _ h => nomatch h))
  (zj_cons (zj_lift (E := E) none (jp_set (i := 8) (jv_list (jb_var 6 (pv 6)) T.b_list) o.nd rfl (by first | exact .inl rfl | exact .inr rfl)) (keeps_two' (by repeat (first | with_reducible exact keeps_next | with_reducible exact keeps_never | with_reducible exact keeps_ret | with_reducible exact keeps_drop | with_reducible exact keepsG_sub | with_reducible exact keepsG_name (by decide) | with_reducible apply keeps_asg | with_reducible apply keeps_if | with_reducible apply keeps_seq | with_reducible apply keeps_for)) (by repeat (first | with_reducible exact keeps_next | with_reducible exact keeps_never | with_reducible exact keeps_ret | with_reducible exact keeps_drop | with_reducible exact keepsG_sub | with_reducible exact keepsG_name (by decide) | with_reducible apply keeps_asg | with_reducible apply keeps_if | with_reducible apply keeps_seq | with_reducible apply keeps_for))) (fun _ h => nomatch h))
  (zj_cons (zj_if (tz_w (wz_or (vz_op (E := E) none (op_neD (by exact o.u64)) (opsem_ne (c := ⟨K, ca⟩)) (nomark _) (vz_callQ CQ__law_put (hr.mono (by decide)) o.call (az_cons (gz_kept 0 0 (pv 0) List.mem_cons_self) (az_cons (gz_own 8 (pv 8) (by decide)) az_nil))) (jb_var 7 (pv 7)) (fun _ h => nomatch h)) (wz_or1 (tz_t (E := E) none (jt_cmp (op_neD (by exact o.u64)) opsem_ne (nomark _) (jb_var 8 (pv 8)) (jb_var 6 (pv 6))) (fun _ h => nomatch h)))))
  (zj_one (zj_ret (vz_s (E := E) none js_bl (fun _ h => nomatch h))))
  zj_nil)
  (zj_cons (zj_lift (E := E) none (jp_clear 8 (pv 8)) (keeps_two' (by repeat (first | with_reducible exact keeps_next | with_reducible exact keeps_never | with_reducible exact keeps_ret | with_reducible exact keeps_drop | with_reducible exact keepsG_sub | with_reducible exact keepsG_name (by decide) | with_reducible apply keeps_asg | with_reducible apply keeps_if | with_reducible apply keeps_seq | with_reducible apply keeps_for)) (by repeat (first | with_reducible exact keeps_next | with_reducible exact keeps_never | with_reducible exact keeps_ret | with_reducible exact keeps_drop | with_reducible exact keepsG_sub | with_reducible exact keepsG_name (by decide) | with_reducible apply keeps_asg | with_reducible apply keeps_if | with_reducible apply keeps_seq | with_reducible apply keeps_for))) (fun _ h => nomatch h))
  (zj_cons (zj_lift (E := E) none (jp_if (jt_cmp (op_eqD (by exact o.u64)) opsem_eq (nomark _) (jb_var 7 (pv 7)) (jb_s (js_v (jv_lst ja_nil))))
  (jps_one (jp_fzF 6 (jp_append 1 (pv 1) (js_v (jv_call C__law_plain (hr.mono (by decide)) o.call (ja_cons (js_var 6 (pv 6)) ja_nil))))))
  jps_nil) (keeps_two' (by repeat (first | with_reducible exact keeps_next | with_reducible exact keeps_never | with_reducible exact keeps_ret | with_reducible exact keeps_drop | with_reducible exact keepsG_sub | with_reducible exact keepsG_name (by decide) | with_reducible apply keeps_asg | with_reducible apply keeps_if | with_reducible apply keeps_seq | with_reducible apply keeps_for)) (by repeat (first | with_reducible exact keeps_next | with_reducible exact keeps_never | with_reducible exact keeps_ret | with_reducible exact keeps_drop | with_reducible exact keepsG_sub | with_reducible exact keepsG_name (by decide) | with_reducible apply keeps_asg | with_reducible apply keeps_if | with_reducible apply keeps_seq | with_reducible apply keeps_for))) (fun _ h => nomatch h))
  (zj_one (zj_ret (vz_s (E := E) none js_bl (fun _ h => nomatch h))))))))))))⟩
theorem ok__law_shown {f : Addr} {fd : FuncData} (T : Blt mg) (M_Hall_walls : MetR P w K mg base ca "walls" 1 f_Hall_walls 1) (C__law_whole : Callee P w K mg base ca "_law_whole" 1 f__law_whole 1) (F : Fun K "_law_shown" "_law_shown" s__law_shown f fd) : FnOk P w K mg base (L2.CX P w) 2 f fd ["_law_hall", "_law_standing"] (spR ⟨K, ca⟩ (fnS 2 5 b__law_shown) 2) :=
  fn_okR (k := 1) F sc__law_shown b__law_shown fun cdv A outer s H E hr o => ⟨_,
  (jps_cons (jp_set (i := 2) (jv_met0 0 M_Hall_walls (hr.mono (by decide)) o.call (pv 0)) o.nd rfl (by first | exact .inl rfl | exact .inr rfl))
  (jps_cons (jp_if (jt_w (jw_or (jt_not (jt_val (js_isi "list" (jb_var 2 (pv 2)) T.b_isinstance T.b_list (by decide +kernel)))) (jw_or1 (jt_cmp (op_neD (by exact o.u64)) opsem_ne (nomark _) (jb_var 2 (pv 2)) (jb_var 1 (pv 1))))))
  (jps_one (jp_ret (jv_s js_bl)))
  jps_nil)
  (jps_cons (jp_forQ 2 (pv 2) (jg_name (i := 3) o.nd rfl (by first | exact .inl rfl | exact .inr rfl))
  (jps_one (jp_if (jt_w (jw_or (jt_not (jt_val (js_isi "tuple" (jb_var 3 (pv 3)) T.b_isinstance T.b_tuple (by decide +kernel)))) (jw_or1 (jt_cmp (op_neD (by exact o.u64)) opsem_ne (nomark _) (jb_s (js_v (jv_lc (own := [("_law_part", 4)]) o.calm o.nd (ji_tup (js_var 3 (pv 3))) (blkOk_by (show blkC ["_law_hall", "_law_standing", "_law_found", "_law_one", "_law_part"] (defScope s__law_shown) _ _ = true by first | decide +kernel | rfl)) (fun _ _ _ _ _ => by exact (jg_name (i := 4) o.nd rfl (by first | exact .inl rfl | exact .inr rfl))) (fun _ _ _ _ _ => by exact (jc_one (by exact (jt_not (jt_val (js_v (jv_call C__law_whole (hr.mono (by decide)) passL (ja_cons (js_var 4 (pv 4)) ja_nil)))))))) (fun _ _ _ _ _ => by exact (js_var 4 (pv 4))) (by decide) s H))) (jb_s (js_v (jv_lst ja_nil)))))))
   (jps_one (jp_ret (jv_s js_bl)))
   jps_nil)) (by repeat (first | with_reducible exact keeps_next | with_reducible exact keeps_never | with_reducible exact keeps_ret | with_reducible exact keeps_drop | with_reducible exact keepsG_sub | with_reducible exact keepsG_name (by decide) | with_reducible apply keeps_asg | with_reducible apply keeps_if | with_reducible apply keeps_seq)) (by repeat (first | with_reducible exact keeps_next | with_reducible exact keeps_never | with_reducible exact keeps_ret | with_reducible exact keeps_drop | with_reducible exact keepsG_sub | with_reducible exact keepsG_name (by decide) | with_reducible apply keeps_asg | with_reducible apply keeps_if | with_reducible apply keeps_seq)) o.pas o.calm)
  (jps_cons (jp_append 2 (pv 2) js_int)
  (jps_one (jp_ret (jv_s (js_cmp (op_eqD (by exact o.u64)) opsem_eq (nomark _) (jb_s (js_v (jv_met0 0 M_Hall_walls (hr.mono (by decide)) o.call (pv 0)))) (jb_var 1 (pv 1))))))))))⟩
theorem ok_law {f : Addr} {fd : FuncData} (T : Blt mg) (C__law_cell_at : Callee P w K mg base ca "_law_cell_at" 1 f__law_cell_at 2) (CQ__law_done : CalleeQ P w K mg base ca "_law_done" 6 f__law_done 4) (CR__law_shown : CalleeR P w K mg base ca "_law_shown" 2 f__law_shown 2) (TH : HK K ca) (MH : MakH P w K mg base ca) (F : Fun K "law" "law" s_law f fd) : FnOk P w K mg base (L2.CX P w) 7 f fd ["_law_script"] (spF ⟨K, ca⟩ (fnOf 1 8 b_law) 1) :=
  fn_ok (k := 6) F sc_law b_law fun cdv A outer s H E hr o => ⟨_,
  (jps_cons (jp_set (i := 1) (jv_lst (ja_cons (js_mod (jb_s (js_v (jv_call C__law_cell_at (hr.mono (by decide)) o.call (ja_cons (js_var 0 (pv 0)) (ja_cons js_int ja_nil))))) (jb_s js_int)) (ja_cons (js_mod (jb_s (js_v (jv_call C__law_cell_at (hr.mono (by decide)) o.call (ja_cons (js_var 0 (pv 0)) (ja_cons js_int ja_nil))))) (jb_s js_int)) ja_nil))) o.nd rfl (by first | exact .inl rfl | exact .inr rfl))
  (jps_lawH 2 3 8 MH hr (by decide) o.call o.nd (js_ix (jb_var 1 (pv 1)) (jb_s js_int)) (js_ix (jb_var 1 (pv 1)) (jb_s js_int))
  (zj_cons (zj_for (E := E) (ji_enum (ja_cons (js_v (jv_slice (jb_var 0 (pv 0)) (jo_some (jb_s js_int)) (jo_some (jb_s js_int)))) ja_nil) T.b_enumerate) (jg_tup (jgs_cons (jg_name (i := 4) o.nd rfl (by first | exact .inl rfl | exact .inr rfl)) (jgs_cons (jg_name (i := 5) o.nd rfl (by first | exact .inl rfl | exact .inr rfl)) jgs_nil)) o.calm) (keepsG_two (by repeat (first | with_reducible exact keepsG_name (by decide) | with_reducible apply keepsG_tup | with_reducible exact keepsGs_nil | with_reducible apply keepsGs_cons)) (by repeat (first | with_reducible exact keepsG_name (by decide) | with_reducible apply keepsG_tup | with_reducible exact keepsGs_nil | with_reducible apply keepsGs_cons)))
  (zj_cons (zj_lift (E := E) none (jp_set (i := 6) (jv_add (jb_s (js_mod (jb_var 5 (pv 5)) (jb_s (js_pow (jb_s js_int) (jb_s js_int))))) (jb_s (js_mul (jb_s js_int) (jb_s (js_v (jv_add (jb_var 4 (pv 4)) (jb_s js_int))))))) o.nd rfl (by first | exact .inl rfl | exact .inr rfl)) (keeps_two' (by repeat (first | with_reducible exact keeps_next | with_reducible exact keeps_never | with_reducible exact keeps_ret | with_reducible exact keeps_drop | with_reducible exact keepsG_sub | with_reducible exact keepsG_name (by decide) | with_reducible apply keeps_asg | with_reducible apply keeps_if | with_reducible apply keeps_seq | with_reducible apply keeps_for)) (by repeat (first | with_reducible exact keeps_next | with_reducible exact keeps_never | with_reducible exact keeps_ret | with_reducible exact keeps_drop | with_reducible exact keepsG_sub | with_reducible exact keepsG_name (by decide) | with_reducible apply keeps_asg | with_reducible apply keeps_if | with_reducible apply keeps_seq | with_reducible apply keeps_for))) (fun _ h => nomatch h))
   (zj_cons (zj_lift (E := E) none (jp_set (i := 7) (jv_s (js_mod (jb_s (js_mod (jb_s (js_mul (jb_var 6 (pv 6)) (jb_var 6 (pv 6)))) (jb_s js_int))) (jb_s js_int))) o.nd rfl (by first | exact .inl rfl | exact .inr rfl)) (keeps_two' (by repeat (first | with_reducible exact keeps_next | with_reducible exact keeps_never | with_reducible exact keeps_ret | with_reducible exact keeps_drop | with_reducible exact keepsG_sub | with_reducible exact keepsG_name (by decide) | with_reducible apply keeps_asg | with_reducible apply keeps_if | with_reducible apply keeps_seq | with_reducible apply keeps_for)) (by repeat (first | with_reducible exact keeps_next | with_reducible exact keeps_never | with_reducible exact keeps_ret | with_reducible exact keeps_drop | with_reducible exact keepsG_sub | with_reducible exact keepsG_name (by decide) | with_reducible apply keeps_asg | with_reducible apply keeps_if | with_reducible apply keeps_seq | with_reducible apply keeps_for))) (fun _ h => nomatch h))
   (zj_cons (zj_if (tz_not (tz_val (vz_callQ CQ__law_done (hr.mono (by decide)) o.call (az_cons (gz_subH (E := E) rfl (pv 2) (jb_var 7 (pv 7))) (az_cons (gz_subL (E := E) rfl (pv 3) (jb_var 7 (pv 7))) (az_cons (gz_js (E := E) none (js_ix (jb_var 1 (pv 1)) (jb_var 7 (pv 7))) (fun _ h => nomatch h)) (az_cons (gz_js (E := E) none (js_var 5 (pv 5)) (fun _ h => nomatch h)) az_nil)))))))
   (zj_one (zj_ret (vz_s (E := E) none js_bl (fun _ h => nomatch h))))
   zj_nil)
   (zj_one (zj_if (tz_w (wz_or (tz_not (tz_callR CR__law_shown (hr.mono (by decide)) o.call (az_cons (gz_subH (E := E) rfl (pv 2) (jb_s js_int)) (az_cons (gz_subL (E := E) rfl (pv 3) (jb_s js_int)) az_nil))).1) (wz_or1 (tz_not (tz_callR CR__law_shown (hr.mono (by decide)) o.call (az_cons (gz_subH (E := E) rfl (pv 2) (jb_s js_int)) (az_cons (gz_subL (E := E) rfl (pv 3) (jb_s js_int)) az_nil))).1))))
   (zj_one (zj_ret (vz_s (E := E) none js_bl (fun _ h => nomatch h))))
   zj_nil))))) o.pas o.calm)
  (zj_one (zj_ret (tz_callR CR__law_shown (hr.mono (by decide)) o.call (az_cons (gz_subH (E := E) rfl (pv 2) (jb_s js_int)) (az_cons (gz_subL (E := E) rfl (pv 3) (jb_s js_int)) az_nil))).2))) rfl rfl (by first | exact .inl rfl | exact .inr rfl) (by first | exact .inl rfl | exact .inr rfl) (by first | exact .inl rfl | exact .inr rfl) (by first | exact .inl rfl | exact .inr rfl)))⟩
end
/-! ### the end -/
theorem all_mk {l : PySem.W.OpenLaw} {w : World} {K : PySem.W.Frag} {h : Heap} {mg : Str → Option Value} {fa : Addr} (X : K.In h) (G : h.Ns mainGlobals mg) (hfa : mg "law" = some (.ref fa))
    {g0 g1 g2 g3 g4 g5 g6 g7 g8 g9 g10 g11 g12 g13 g14 g15 g16 : Addr} {od0 an0 od1 an1 od2 an2 od3 an3 od4 an4 od5 an5 od6 an6 od7 an7 od8 an8 od9 an9 od10 an10 od11 an11 od12 an12 od13 an13 od14 an14 od15 an15 od16 an16 : Option Addr} {sl0 sl1 sl2 sl3 sl4 sl5 sl6 sl7 sl8 sl9 sl10 sl11 sl12 sl13 sl14 sl15 sl16 : Array (Option Value)} {oc0 kV0 dc0 pm0 cd0 ct0 oc1 kV1 dc1 pm1 cd1 ct1 oc2 kV2 dc2 pm2 cd2 ct2 oc3 kV3 dc3 pm3 cd3 ct3 oc4 kV4 dc4 pm4 cd4 ct4 oc5 kV5 dc5 pm5 cd5 ct5 oc6 kV6 dc6 pm6 cd6 ct6 oc7 kV7 dc7 pm7 cd7 ct7 oc8 kV8 dc8 pm8 cd8 ct8 oc9 kV9 dc9 pm9 cd9 ct9 oc10 kV10 dc10 pm10 cd10 ct10 oc11 kV11 dc11 pm11 cd11 ct11 oc12 kV12 dc12 pm12 cd12 ct12 oc13 kV13 dc13 pm13 cd13 ct13 oc14 kV14 dc14 pm14 cd14 ct14 oc15 kV15 dc15 pm15 cd15 ct15 oc16 kV16 dc16 pm16 cd16 ct16 : Value}
    {e0 e1 e2 e3 e4 e5 eH gH : Addr} {odH anH : Option Addr} {slH : Array (Option Value)} {ocH kVH dcH pmH cdH ctH : Value}
    {gI : Addr} {nmW qW : Str} {NW_ : Addr} {bsW : List Value} {snW : List Str} {subW : List Value} {abW : Bool} {colW : Option Bool} {ddW : Option Addr} {w0 w1 w2 w3 w5 : Option Value} {odI anI : Option Addr} {slI : Array (Option Value)} {ocI kVI dcI pmI cdI ctI : Value}
    (hA : PySem.W.nsIn K mainGlobals "Hall" = some (some (.ref eH)))
    (hp : PySem.W.plainGet K eH Str.empty = true)
    (hd : PySem.W.hasDictIn K eH = true)
    (ho : PySem.W.plainOver K eH = true)
    (hs : PySem.W.findIn K (.ref eH) "__setattr__" = some (some (.builtin "object.__setattr__")))
    (hm1 : PySem.W.findIn K (.ref eH) "many" = some none)
    (hm2 : PySem.W.findIn K (.ref eH) "standing" = some none)
    (hk : PySem.W.makesIn K eH = true)
    (hi : PySem.W.findIn K (.ref eH) "__init__" = some (some (.ref gH)))
    (hif : PySem.W.isFn K (.ref gH) = true)
    (hkp : PySem.W.keepIn K (.ref eH) = true)
    (hlI : K.lookup gH = some ⟨ocH, odH, .func (PySem.W.fnOf "__init__" "Hall.__init__" (defArgs s_HI) (defBody s_HI) (defScope s_HI) .none kVH dcH pmH anH cdH ctH), slH⟩)
    (hcI : PySem.W.codeIn K cdH "Hall.__init__" = true)
    (hkI : PySem.W.keepIn K (.ref gH) = true)
    (a0 : PySem.W.findIn K (.ref eH) "walls" = some (some (.ref g0))) (i0 : PySem.W.isFn K (.ref g0) = true) (l0 : K.lookup g0 = some ⟨oc0, od0, .func (PySem.W.fnOf "walls" "Hall.walls" (defArgs s_Hall_walls) (defBody s_Hall_walls) (defScope s_Hall_walls) .none kV0 dc0 pm0 an0 cd0 ct0), sl0⟩) (c0 : PySem.W.codeIn K cd0 "Hall.walls" = true) (k0 : PySem.W.keepIn K (.ref g0) = true)
    (a1 : PySem.W.findIn K (.ref eH) "take" = some (some (.ref g1))) (i1 : PySem.W.isFn K (.ref g1) = true) (l1 : K.lookup g1 = some ⟨oc1, od1, .func (PySem.W.fnOf "take" "Hall.take" (defArgs s_Hall_take) (defBody s_Hall_take) (defScope s_Hall_take) .none kV1 dc1 pm1 an1 cd1 ct1), sl1⟩) (c1 : PySem.W.codeIn K cd1 "Hall.take" = true) (k1 : PySem.W.keepIn K (.ref g1) = true)
    (a2 : PySem.W.nsIn K mainGlobals "divisor" = some (some (.ref g2))) (l2 : K.lookup g2 = some ⟨oc2, od2, .func (PySem.W.fnOf "divisor" "divisor" (defArgs s_divisor) (defBody s_divisor) (defScope s_divisor) .none kV2 dc2 pm2 an2 cd2 ct2), sl2⟩) (c2 : PySem.W.codeIn K cd2 "divisor" = true) (k2 : PySem.W.keepIn K (.ref g2) = true)
    (a3 : PySem.W.nsIn K mainGlobals "plain_wall" = some (some (.ref g3))) (l3 : K.lookup g3 = some ⟨oc3, od3, .func (PySem.W.fnOf "plain_wall" "plain_wall" (defArgs s_plain_wall) (defBody s_plain_wall) (defScope s_plain_wall) .none kV3 dc3 pm3 an3 cd3 ct3), sl3⟩) (c3 : PySem.W.codeIn K cd3 "plain_wall" = true) (k3 : PySem.W.keepIn K (.ref g3) = true)
    (a4 : PySem.W.nsIn K mainGlobals "wall" = some (some (.ref g4))) (l4 : K.lookup g4 = some ⟨oc4, od4, .func (PySem.W.fnOf "wall" "wall" (defArgs s_wall) (defBody s_wall) (defScope s_wall) .none kV4 dc4 pm4 an4 cd4 ct4), sl4⟩) (c4 : PySem.W.codeIn K cd4 "wall" = true) (k4 : PySem.W.keepIn K (.ref g4) = true)
    (a5 : PySem.W.findIn K (.ref eH) "put" = some (some (.ref g5))) (i5 : PySem.W.isFn K (.ref g5) = true) (l5 : K.lookup g5 = some ⟨oc5, od5, .func (PySem.W.fnOf "put" "Hall.put" (defArgs s_Hall_put) (defBody s_Hall_put) (defScope s_Hall_put) .none kV5 dc5 pm5 an5 cd5 ct5), sl5⟩) (c5 : PySem.W.codeIn K cd5 "Hall.put" = true) (k5 : PySem.W.keepIn K (.ref g5) = true)
    (a6 : PySem.W.nsIn K mainGlobals "_law_cell_at" = some (some (.ref g6))) (l6 : K.lookup g6 = some ⟨oc6, od6, .func (PySem.W.fnOf "_law_cell_at" "_law_cell_at" (defArgs s__law_cell_at) (defBody s__law_cell_at) (defScope s__law_cell_at) .none kV6 dc6 pm6 an6 cd6 ct6), sl6⟩) (c6 : PySem.W.codeIn K cd6 "_law_cell_at" = true) (k6 : PySem.W.keepIn K (.ref g6) = true)
    (a7 : PySem.W.nsIn K mainGlobals "_law_whole" = some (some (.ref g7))) (l7 : K.lookup g7 = some ⟨oc7, od7, .func (PySem.W.fnOf "_law_whole" "_law_whole" (defArgs s__law_whole) (defBody s__law_whole) (defScope s__law_whole) .none kV7 dc7 pm7 an7 cd7 ct7), sl7⟩) (c7 : PySem.W.codeIn K cd7 "_law_whole" = true) (k7 : PySem.W.keepIn K (.ref g7) = true)
    (a8 : PySem.W.nsIn K mainGlobals "_law_divisor" = some (some (.ref g8))) (l8 : K.lookup g8 = some ⟨oc8, od8, .func (PySem.W.fnOf "_law_divisor" "_law_divisor" (defArgs s__law_divisor) (defBody s__law_divisor) (defScope s__law_divisor) .none kV8 dc8 pm8 an8 cd8 ct8), sl8⟩) (c8 : PySem.W.codeIn K cd8 "_law_divisor" = true) (k8 : PySem.W.keepIn K (.ref g8) = true)
    (a9 : PySem.W.nsIn K mainGlobals "_law_plain" = some (some (.ref g9))) (l9 : K.lookup g9 = some ⟨oc9, od9, .func (PySem.W.fnOf "_law_plain" "_law_plain" (defArgs s__law_plain) (defBody s__law_plain) (defScope s__law_plain) .none kV9 dc9 pm9 an9 cd9 ct9), sl9⟩) (c9 : PySem.W.codeIn K cd9 "_law_plain" = true) (k9 : PySem.W.keepIn K (.ref g9) = true)
    (a10 : PySem.W.nsIn K mainGlobals "_law_row" = some (some (.ref g10))) (l10 : K.lookup g10 = some ⟨oc10, od10, .func (PySem.W.fnOf "_law_row" "_law_row" (defArgs s__law_row) (defBody s__law_row) (defScope s__law_row) .none kV10 dc10 pm10 an10 cd10 ct10), sl10⟩) (c10 : PySem.W.codeIn K cd10 "_law_row" = true) (k10 : PySem.W.keepIn K (.ref g10) = true)
    (a11 : PySem.W.nsIn K mainGlobals "_law_told" = some (some (.ref g11))) (l11 : K.lookup g11 = some ⟨oc11, od11, .func (PySem.W.fnOf "_law_told" "_law_told" (defArgs s__law_told) (defBody s__law_told) (defScope s__law_told) .none kV11 dc11 pm11 an11 cd11 ct11), sl11⟩) (c11 : PySem.W.codeIn K cd11 "_law_told" = true) (k11 : PySem.W.keepIn K (.ref g11) = true)
    (a12 : PySem.W.nsIn K mainGlobals "_law_put" = some (some (.ref g12))) (l12 : K.lookup g12 = some ⟨oc12, od12, .func (PySem.W.fnOf "_law_put" "_law_put" (defArgs s__law_put) (defBody s__law_put) (defScope s__law_put) .none kV12 dc12 pm12 an12 cd12 ct12), sl12⟩) (c12 : PySem.W.codeIn K cd12 "_law_put" = true) (k12 : PySem.W.keepIn K (.ref g12) = true)
    (a13 : PySem.W.nsIn K mainGlobals "_law_took" = some (some (.ref g13))) (l13 : K.lookup g13 = some ⟨oc13, od13, .func (PySem.W.fnOf "_law_took" "_law_took" (defArgs s__law_took) (defBody s__law_took) (defScope s__law_took) .none kV13 dc13 pm13 an13 cd13 ct13), sl13⟩) (c13 : PySem.W.codeIn K cd13 "_law_took" = true) (k13 : PySem.W.keepIn K (.ref g13) = true)
    (a14 : PySem.W.nsIn K mainGlobals "_law_done" = some (some (.ref g14))) (l14 : K.lookup g14 = some ⟨oc14, od14, .func (PySem.W.fnOf "_law_done" "_law_done" (defArgs s__law_done) (defBody s__law_done) (defScope s__law_done) .none kV14 dc14 pm14 an14 cd14 ct14), sl14⟩) (c14 : PySem.W.codeIn K cd14 "_law_done" = true) (k14 : PySem.W.keepIn K (.ref g14) = true)
    (a15 : PySem.W.nsIn K mainGlobals "_law_shown" = some (some (.ref g15))) (l15 : K.lookup g15 = some ⟨oc15, od15, .func (PySem.W.fnOf "_law_shown" "_law_shown" (defArgs s__law_shown) (defBody s__law_shown) (defScope s__law_shown) .none kV15 dc15 pm15 an15 cd15 ct15), sl15⟩) (c15 : PySem.W.codeIn K cd15 "_law_shown" = true) (k15 : PySem.W.keepIn K (.ref g15) = true)
    (a16 : PySem.W.nsIn K mainGlobals "law" = some (some (.ref g16))) (l16 : K.lookup g16 = some ⟨oc16, od16, .func (PySem.W.fnOf "law" "law" (defArgs s_law) (defBody s_law) (defScope s_law) .none kV16 dc16 pm16 an16 cd16 ct16), sl16⟩) (c16 : PySem.W.codeIn K cd16 "law" = true) (k16 : PySem.W.keepIn K (.ref g16) = true)
    (xa0 : PySem.W.nsIn K mainGlobals "WallError" = some (some (.ref e0)))
    (xa1 : PySem.W.nsIn K mainGlobals "NoNumber" = some (some (.ref e1)))
    (xa2 : PySem.W.nsIn K mainGlobals "NoLand" = some (some (.ref e2)))
    (xa3 : PySem.W.nsIn K mainGlobals "NoPlace" = some (some (.ref e3)))
    (xa4 : PySem.W.nsIn K mainGlobals "NoFace" = some (some (.ref e4)))
    (xa5 : PySem.W.nsIn K mainGlobals "NoWall" = some (some (.ref e5)))
    (xk0 : PySem.W.keepIn K (.ref e0) = true)
    (xb0 : PySem.W.subIn K (.ref e0) (.type "BaseException") = some true)
    (xt0 : PySem.W.typeIn K (.ref e0) = some (.type "type"))
    (xi0 : PySem.W.isClsIn K e0 = true)
    (xga0 : PySem.W.findIn K (.ref e0) "__getattribute__" = some (some (.builtin "BaseException.__getattribute__")))
    (xgg0 : PySem.W.findIn K (.ref e0) "__getattr__" = some none)
    (xha0 : PySem.W.findIn K (.ref e0) "__class__" = some (some (.builtin "object.__class__")))
    (xhd0 : PySem.W.hasDictIn K e0 = true)
    (xhm0 : PySem.W.mroIn K e0 (.type "object") = some true)
    (xsv0 : PySem.W.subIn K (.ref e0) (.type "ValueError") = some true)
    (xsn0 : PySem.W.subIn K (.type "NoneType") (.ref e0) = some false)
    (xx0 : PySem.W.excIn K e0 [.type "ValueError", .type "Exception", .type "BaseException", .type "object"] "ValueError.__new__" = true)
    (xk1 : PySem.W.keepIn K (.ref e1) = true)
    (xb1 : PySem.W.subIn K (.ref e1) (.type "BaseException") = some true)
    (xt1 : PySem.W.typeIn K (.ref e1) = some (.type "type"))
    (xi1 : PySem.W.isClsIn K e1 = true)
    (xga1 : PySem.W.findIn K (.ref e1) "__getattribute__" = some (some (.builtin "BaseException.__getattribute__")))
    (xgg1 : PySem.W.findIn K (.ref e1) "__getattr__" = some none)
    (xha1 : PySem.W.findIn K (.ref e1) "__class__" = some (some (.builtin "object.__class__")))
    (xhd1 : PySem.W.hasDictIn K e1 = true)
    (xhm1 : PySem.W.mroIn K e1 (.type "object") = some true)
    (xsv1 : PySem.W.subIn K (.ref e1) (.type "ValueError") = some true)
    (xsn1 : PySem.W.subIn K (.type "NoneType") (.ref e1) = some false)
    (xx1 : PySem.W.excIn K e1 [.type "ValueError", .type "Exception", .type "BaseException", .type "object"] "ValueError.__new__" = true)
    (xk2 : PySem.W.keepIn K (.ref e2) = true)
    (xb2 : PySem.W.subIn K (.ref e2) (.type "BaseException") = some true)
    (xt2 : PySem.W.typeIn K (.ref e2) = some (.type "type"))
    (xi2 : PySem.W.isClsIn K e2 = true)
    (xga2 : PySem.W.findIn K (.ref e2) "__getattribute__" = some (some (.builtin "BaseException.__getattribute__")))
    (xgg2 : PySem.W.findIn K (.ref e2) "__getattr__" = some none)
    (xha2 : PySem.W.findIn K (.ref e2) "__class__" = some (some (.builtin "object.__class__")))
    (xhd2 : PySem.W.hasDictIn K e2 = true)
    (xhm2 : PySem.W.mroIn K e2 (.type "object") = some true)
    (xsv2 : PySem.W.subIn K (.ref e2) (.type "ValueError") = some true)
    (xsn2 : PySem.W.subIn K (.type "NoneType") (.ref e2) = some false)
    (xx2 : PySem.W.excIn K e2 [.type "ValueError", .type "Exception", .type "BaseException", .type "object"] "ValueError.__new__" = true)
    (xk3 : PySem.W.keepIn K (.ref e3) = true)
    (xb3 : PySem.W.subIn K (.ref e3) (.type "BaseException") = some true)
    (xt3 : PySem.W.typeIn K (.ref e3) = some (.type "type"))
    (xi3 : PySem.W.isClsIn K e3 = true)
    (xga3 : PySem.W.findIn K (.ref e3) "__getattribute__" = some (some (.builtin "BaseException.__getattribute__")))
    (xgg3 : PySem.W.findIn K (.ref e3) "__getattr__" = some none)
    (xha3 : PySem.W.findIn K (.ref e3) "__class__" = some (some (.builtin "object.__class__")))
    (xhd3 : PySem.W.hasDictIn K e3 = true)
    (xhm3 : PySem.W.mroIn K e3 (.type "object") = some true)
    (xsv3 : PySem.W.subIn K (.ref e3) (.type "ValueError") = some true)
    (xsn3 : PySem.W.subIn K (.type "NoneType") (.ref e3) = some false)
    (xx3 : PySem.W.excIn K e3 [.type "ValueError", .type "Exception", .type "BaseException", .type "object"] "ValueError.__new__" = true)
    (xk4 : PySem.W.keepIn K (.ref e4) = true)
    (xb4 : PySem.W.subIn K (.ref e4) (.type "BaseException") = some true)
    (xt4 : PySem.W.typeIn K (.ref e4) = some (.type "type"))
    (xi4 : PySem.W.isClsIn K e4 = true)
    (xga4 : PySem.W.findIn K (.ref e4) "__getattribute__" = some (some (.builtin "BaseException.__getattribute__")))
    (xgg4 : PySem.W.findIn K (.ref e4) "__getattr__" = some none)
    (xha4 : PySem.W.findIn K (.ref e4) "__class__" = some (some (.builtin "object.__class__")))
    (xhd4 : PySem.W.hasDictIn K e4 = true)
    (xhm4 : PySem.W.mroIn K e4 (.type "object") = some true)
    (xsv4 : PySem.W.subIn K (.ref e4) (.type "ValueError") = some true)
    (xsn4 : PySem.W.subIn K (.type "NoneType") (.ref e4) = some false)
    (xx4 : PySem.W.excIn K e4 [.type "ValueError", .type "Exception", .type "BaseException", .type "object"] "ValueError.__new__" = true)
    (xk5 : PySem.W.keepIn K (.ref e5) = true)
    (xb5 : PySem.W.subIn K (.ref e5) (.type "BaseException") = some true)
    (xt5 : PySem.W.typeIn K (.ref e5) = some (.type "type"))
    (xi5 : PySem.W.isClsIn K e5 = true)
    (xga5 : PySem.W.findIn K (.ref e5) "__getattribute__" = some (some (.builtin "BaseException.__getattribute__")))
    (xgg5 : PySem.W.findIn K (.ref e5) "__getattr__" = some none)
    (xha5 : PySem.W.findIn K (.ref e5) "__class__" = some (some (.builtin "object.__class__")))
    (xhd5 : PySem.W.hasDictIn K e5 = true)
    (xhm5 : PySem.W.mroIn K e5 (.type "object") = some true)
    (xsv5 : PySem.W.subIn K (.ref e5) (.type "ValueError") = some true)
    (xsn5 : PySem.W.subIn K (.type "NoneType") (.ref e5) = some false)
    (xs00 : PySem.W.subIn K (.ref e0) (.ref e0) = some true)
    (xs01 : PySem.W.subIn K (.ref e0) (.ref e1) = some false)
    (xs02 : PySem.W.subIn K (.ref e0) (.ref e2) = some false)
    (xs03 : PySem.W.subIn K (.ref e0) (.ref e3) = some false)
    (xs04 : PySem.W.subIn K (.ref e0) (.ref e4) = some false)
    (xs05 : PySem.W.subIn K (.ref e0) (.ref e5) = some false)
    (xs10 : PySem.W.subIn K (.ref e1) (.ref e0) = some true)
    (xs11 : PySem.W.subIn K (.ref e1) (.ref e1) = some true)
    (xs12 : PySem.W.subIn K (.ref e1) (.ref e2) = some false)
    (xs13 : PySem.W.subIn K (.ref e1) (.ref e3) = some false)
    (xs14 : PySem.W.subIn K (.ref e1) (.ref e4) = some false)
    (xs15 : PySem.W.subIn K (.ref e1) (.ref e5) = some false)
    (xs20 : PySem.W.subIn K (.ref e2) (.ref e0) = some true)
    (xs21 : PySem.W.subIn K (.ref e2) (.ref e1) = some false)
    (xs22 : PySem.W.subIn K (.ref e2) (.ref e2) = some true)
    (xs23 : PySem.W.subIn K (.ref e2) (.ref e3) = some false)
    (xs24 : PySem.W.subIn K (.ref e2) (.ref e4) = some false)
    (xs25 : PySem.W.subIn K (.ref e2) (.ref e5) = some false)
    (xs30 : PySem.W.subIn K (.ref e3) (.ref e0) = some true)
    (xs31 : PySem.W.subIn K (.ref e3) (.ref e1) = some false)
    (xs32 : PySem.W.subIn K (.ref e3) (.ref e2) = some false)
    (xs33 : PySem.W.subIn K (.ref e3) (.ref e3) = some true)
    (xs34 : PySem.W.subIn K (.ref e3) (.ref e4) = some false)
    (xs35 : PySem.W.subIn K (.ref e3) (.ref e5) = some false)
    (xs40 : PySem.W.subIn K (.ref e4) (.ref e0) = some true)
    (xs41 : PySem.W.subIn K (.ref e4) (.ref e1) = some false)
    (xs42 : PySem.W.subIn K (.ref e4) (.ref e2) = some false)
    (xs43 : PySem.W.subIn K (.ref e4) (.ref e3) = some false)
    (xs44 : PySem.W.subIn K (.ref e4) (.ref e4) = some true)
    (xs45 : PySem.W.subIn K (.ref e4) (.ref e5) = some false)
    (xs50 : PySem.W.subIn K (.ref e5) (.ref e0) = some true)
    (xs51 : PySem.W.subIn K (.ref e5) (.ref e1) = some false)
    (xs52 : PySem.W.subIn K (.ref e5) (.ref e2) = some false)
    (xs53 : PySem.W.subIn K (.ref e5) (.ref e3) = some false)
    (xs54 : PySem.W.subIn K (.ref e5) (.ref e4) = some false)
    (xs55 : PySem.W.subIn K (.ref e5) (.ref e5) = some true)
    (xhn : PySem.W.specialIn K (.builtin "object.__class__") "__get__" = some (some (.builtin "getset_descriptor.__get__")))
    (xht : PySem.W.takesIn K (.builtin "object.__class__") = some true)
    (xL : K.lookup e5 = some (excClassObj nmW qW e5 NW_ bsW [.ref e0, .type "ValueError", .type "Exception", .type "BaseException", .type "object"] true snW subW abW colW ddW w0 w1 w2 w3 w5 "ValueError.__new__"))
    (xsa : PySem.W.findIn K (.ref e5) "__setattr__" = some (some (.builtin "object.__setattr__")))
    (xno : PySem.W.findIn K (.ref e5) "place" = some none)
    (xI : PySem.W.findIn K (.ref e5) "__init__" = some (some (.ref gI)))
    (xtI : PySem.W.typeIn K (.ref gI) = some (.type "function"))
    (xlI : K.lookup gI = some ⟨ocI, odI, .func (PySem.W.fnOf "__init__" "NoWall.__init__" (defArgs s_NWi) (defBody s_NWi) (defScope s_NWi) .none kVI dcI pmI anI cdI ctI), slI⟩)
    (xcI : PySem.W.codeIn K cdI "NoWall.__init__" = true)
    (xkI : PySem.W.keepIn K (.ref gI) = true)
    (z_ValueError : PySem.W.nsIn K mainGlobals "ValueError" = some none)
    (z_abs : PySem.W.nsIn K mainGlobals "abs" = some none)
    (z_any : PySem.W.nsIn K mainGlobals "any" = some none)
    (z_bool : PySem.W.nsIn K mainGlobals "bool" = some none)
    (z_enumerate : PySem.W.nsIn K mainGlobals "enumerate" = some none)
    (z_int : PySem.W.nsIn K mainGlobals "int" = some none)
    (z_isinstance : PySem.W.nsIn K mainGlobals "isinstance" = some none)
    (z_len : PySem.W.nsIn K mainGlobals "len" = some none)
    (z_list : PySem.W.nsIn K mainGlobals "list" = some none)
    (z_max : PySem.W.nsIn K mainGlobals "max" = some none)
    (z_range : PySem.W.nsIn K mainGlobals "range" = some none)
    (z_tuple : PySem.W.nsIn K mainGlobals "tuple" = some none)
    (ht : ∀ ns : List Int, ns.length ≤ 63 → f_law [.list (ns.map .int)] = .ok (.sh (.bool true))) :
    ∃ fd : FuncData, (∀ (s : Shared) (v : Value), BindsTo s fd ⟨[v], []⟩ [("_law_script", v)]) ∧ ∀ base : Heap, K.In base → base.Ns mainGlobals mg → FnOk l.prog w K mg base (L2.CX l.prog w) 7 fa fd ["_law_script"] (spTrue K) := by
  have e := hfa.symm.trans (PySem.W.mg_of X G a16)
  cases e
  have T : Blt mg := ⟨PySem.W.mg_none_of X G z_ValueError, PySem.W.mg_none_of X G z_abs, PySem.W.mg_none_of X G z_any, PySem.W.mg_none_of X G z_bool, PySem.W.mg_none_of X G z_enumerate, PySem.W.mg_none_of X G z_int, PySem.W.mg_none_of X G z_isinstance, PySem.W.mg_none_of X G z_len, PySem.W.mg_none_of X G z_list, PySem.W.mg_none_of X G z_max, PySem.W.mg_none_of X G z_range, PySem.W.mg_none_of X G z_tuple⟩
  have F0 := fun_mk (st := s_Hall_walls) l0 c0 k0
  have b0 := F0.binds (ps := ["self"]) fun _ _ _ _ _ _ us hl => match us, hl with | [_], _ => rfl
  have F1 := fun_mk (st := s_Hall_take) l1 c1 k1
  have b1 := F1.binds (ps := ["self", "place"]) fun _ _ _ _ _ _ us hl => match us, hl with | [_, _], _ => rfl
  have F2 := fun_mk (st := s_divisor) l2 c2 k2
  have b2 := F2.binds (ps := ["one", "other"]) fun _ _ _ _ _ _ us hl => match us, hl with | [_, _], _ => rfl
  have F3 := fun_mk (st := s_plain_wall) l3 c3 k3
  have b3 := F3.binds (ps := ["numbers"]) fun _ _ _ _ _ _ us hl => match us, hl with | [_], _ => rfl
  have F4 := fun_mk (st := s_wall) l4 c4 k4
  have b4 := F4.binds (ps := ["numbers"]) fun _ _ _ _ _ _ us hl => match us, hl with | [_], _ => rfl
  have F5 := fun_mk (st := s_Hall_put) l5 c5 k5
  have b5 := F5.binds (ps := ["self", "numbers"]) fun _ _ _ _ _ _ us hl => match us, hl with | [_, _], _ => rfl
  have F6 := fun_mk (st := s__law_cell_at) l6 c6 k6
  have b6 := F6.binds (ps := ["_law_script", "_law_k"]) fun _ _ _ _ _ _ us hl => match us, hl with | [_, _], _ => rfl
  have F7 := fun_mk (st := s__law_whole) l7 c7 k7
  have b7 := F7.binds (ps := ["_law_found"]) fun _ _ _ _ _ _ us hl => match us, hl with | [_], _ => rfl
  have F8 := fun_mk (st := s__law_divisor) l8 c8 k8
  have b8 := F8.binds (ps := ["_law_one", "_law_other"]) fun _ _ _ _ _ _ us hl => match us, hl with | [_, _], _ => rfl
  have F9 := fun_mk (st := s__law_plain) l9 c9 k9
  have b9 := F9.binds (ps := ["_law_row_here"]) fun _ _ _ _ _ _ us hl => match us, hl with | [_], _ => rfl
  have F10 := fun_mk (st := s__law_row) l10 c10 k10
  have b10 := F10.binds (ps := ["_law_standing", "_law_ways", "_law_cell"]) fun _ _ _ _ _ _ us hl => match us, hl with | [_, _, _], _ => rfl
  have F11 := fun_mk (st := s__law_told) l11 c11 k11
  have b11 := F11.binds (ps := ["_law_caught"]) fun _ _ _ _ _ _ us hl => match us, hl with | [_], _ => rfl
  have F12 := fun_mk (st := s__law_put) l12 c12 k12
  have b12 := F12.binds (ps := ["_law_hall", "_law_row_here"]) fun _ _ _ _ _ _ us hl => match us, hl with | [_, _], _ => rfl
  have F13 := fun_mk (st := s__law_took) l13 c13 k13
  have b13 := F13.binds (ps := ["_law_hall", "_law_place"]) fun _ _ _ _ _ _ us hl => match us, hl with | [_, _], _ => rfl
  have F14 := fun_mk (st := s__law_done) l14 c14 k14
  have b14 := F14.binds (ps := ["_law_hall", "_law_standing", "_law_ways", "_law_cell"]) fun _ _ _ _ _ _ us hl => match us, hl with | [_, _, _, _], _ => rfl
  have F15 := fun_mk (st := s__law_shown) l15 c15 k15
  have b15 := F15.binds (ps := ["_law_hall", "_law_standing"]) fun _ _ _ _ _ _ us hl => match us, hl with | [_, _], _ => rfl
  have F16 := fun_mk (st := s_law) l16 c16 k16
  have b16 := F16.binds (ps := ["_law_script"]) fun _ _ _ _ _ _ us hl => match us, hl with | [_], _ => rfl
  refine ⟨PySem.W.fnOf "law" "law" (defArgs s_law) (defBody s_law) (defScope s_law) .none kV16 dc16 pm16 an16 cd16 ct16, fun s v => .of_eq rfl, fun base _ _ => ?_⟩
  have TX : EX K mg (caL [e0, e1, e2, e3, e4, e5, eH]) := ⟨fun i hi => match i, hi with
      | 0, _ => ⟨PySem.W.mg_of X G xa0, xk0, xb0, xt0, xi0, xga0, xgg0, xha0, xhd0, xhm0, xsv0, xsn0⟩
      | 1, _ => ⟨PySem.W.mg_of X G xa1, xk1, xb1, xt1, xi1, xga1, xgg1, xha1, xhd1, xhm1, xsv1, xsn1⟩
      | 2, _ => ⟨PySem.W.mg_of X G xa2, xk2, xb2, xt2, xi2, xga2, xgg2, xha2, xhd2, xhm2, xsv2, xsn2⟩
      | 3, _ => ⟨PySem.W.mg_of X G xa3, xk3, xb3, xt3, xi3, xga3, xgg3, xha3, xhd3, xhm3, xsv3, xsn3⟩
      | 4, _ => ⟨PySem.W.mg_of X G xa4, xk4, xb4, xt4, xi4, xga4, xgg4, xha4, xhd4, xhm4, xsv4, xsn4⟩
      | 5, _ => ⟨PySem.W.mg_of X G xa5, xk5, xb5, xt5, xi5, xga5, xgg5, xha5, xhd5, xhm5, xsv5, xsn5⟩
      | n + 6, h => absurd h (by unfold eOk; omega), fun i j hi hj => match i, j, hi, hj with
      | 0, 0, _, _ => xs00
      | 0, 1, _, _ => xs01
      | 0, 2, _, _ => xs02
      | 0, 3, _, _ => xs03
      | 0, 4, _, _ => xs04
      | 0, 5, _, _ => xs05
      | 1, 0, _, _ => xs10
      | 1, 1, _, _ => xs11
      | 1, 2, _, _ => xs12
      | 1, 3, _, _ => xs13
      | 1, 4, _, _ => xs14
      | 1, 5, _, _ => xs15
      | 2, 0, _, _ => xs20
      | 2, 1, _, _ => xs21
      | 2, 2, _, _ => xs22
      | 2, 3, _, _ => xs23
      | 2, 4, _, _ => xs24
      | 2, 5, _, _ => xs25
      | 3, 0, _, _ => xs30
      | 3, 1, _, _ => xs31
      | 3, 2, _, _ => xs32
      | 3, 3, _, _ => xs33
      | 3, 4, _, _ => xs34
      | 3, 5, _, _ => xs35
      | 4, 0, _, _ => xs40
      | 4, 1, _, _ => xs41
      | 4, 2, _, _ => xs42
      | 4, 3, _, _ => xs43
      | 4, 4, _, _ => xs44
      | 4, 5, _, _ => xs45
      | 5, 0, _, _ => xs50
      | 5, 1, _, _ => xs51
      | 5, 2, _, _ => xs52
      | 5, 3, _, _ => xs53
      | 5, 4, _, _ => xs54
      | 5, 5, _, _ => xs55
      | n + 6, _, h, _ => absurd h (by unfold eOk; omega)
      | _, n + 6, _, h => absurd h (by unfold eOk; omega), xhn, xht, fun i hi h5 => match i, hi, h5 with
      | 0, _, _ => xx0
      | 1, _, _ => xx1
      | 2, _, _ => xx2
      | 3, _, _ => xx3
      | 4, _, _ => xx4
      | n + 5, _, h => absurd h (by omega)⟩
  have exNo : PySem.W.findIn K (.ref (caL [e0, e1, e2, e3, e4, e5, eH] 5)) "place" = some none := xno
  have FI := fun_mk (st := s_NWi) xlI xcI xkI
  have bI := FI.binds (ps := ["self", "place"]) fun _ _ _ _ _ _ us hl => match us, hl with | [_, _], _ => rfl
  have TO : OexC K (caL [e0, e1, e2, e3, e4, e5, eH] 5) := ⟨⟨nmW, qW, NW_, bsW, _, snW, subW, abW, colW, ddW, w0, w1, w2, w3, w5, xL, (show HandSPX.refsVE [.type "ValueError", .type "Exception", .type "BaseException", .type "object"] = true by decide +kernel)⟩, xsa, xb5, xt5, xk5⟩
  have NX : NW l.prog w K mg base (caL [e0, e1, e2, e3, e4, e5, eH]) := ⟨TO, ⟨gI, _, xI, xtI, ok_NWi FI TO xno, bI⟩⟩
  have TH : HK K (caL [e0, e1, e2, e3, e4, e5, eH]) := ⟨⟨hp, hd, ho, hs⟩, hm1, hm2⟩
  have FH := fun_mk (st := s_HI) hlI hcI hkI
  have bH := FH.binds (ps := ["self", "ways"]) fun _ _ _ _ _ _ us hl => match us, hl with | [_, _], _ => rfl
  have MH : MakH l.prog w K mg base (caL [e0, e1, e2, e3, e4, e5, eH]) := ⟨⟨gH, _, ["self", "ways"], ⟨hk, hi, hif, hkp⟩, ok_HI TH FH, PySem.W.mg_of X G hA, bH⟩⟩
  have M_Hall_walls : MetR l.prog w K mg base (caL [e0, e1, e2, e3, e4, e5, eH]) "walls" 1 f_Hall_walls 1 := ⟨⟨_, _, _, TH.c, ⟨a0, i0, k0⟩, ok_Hall_walls T  TH F0, b0⟩, fun ss => fnS_len ss⟩
  have M_Hall_take : MetP l.prog w K mg base (caL [e0, e1, e2, e3, e4, e5, eH]) "take" 1 f_Hall_take := ⟨⟨_, _, _, TH.c, ⟨a1, i1, k1⟩, ok_Hall_take T  TX TH F1, b1⟩⟩
  have C_divisor : Callee l.prog w K mg base (caL [e0, e1, e2, e3, e4, e5, eH]) "divisor" 1 f_divisor 2 := callee_of F2 (ok_divisor T  F2) (PySem.W.mg_of X G a2) b2
  have C__law_cell_at : Callee l.prog w K mg base (caL [e0, e1, e2, e3, e4, e5, eH]) "_law_cell_at" 1 f__law_cell_at 2 := callee_of F6 (ok__law_cell_at T  F6) (PySem.W.mg_of X G a6) b6
  have C__law_whole : Callee l.prog w K mg base (caL [e0, e1, e2, e3, e4, e5, eH]) "_law_whole" 1 f__law_whole 1 := callee_of F7 (ok__law_whole T  F7) (PySem.W.mg_of X G a7) b7
  have C__law_divisor : Callee l.prog w K mg base (caL [e0, e1, e2, e3, e4, e5, eH]) "_law_divisor" 1 f__law_divisor 2 := callee_of F8 (ok__law_divisor T  F8) (PySem.W.mg_of X G a8) b8
  have C__law_row : Callee l.prog w K mg base (caL [e0, e1, e2, e3, e4, e5, eH]) "_law_row" 1 f__law_row 3 := callee_of F10 (ok__law_row T  F10) (PySem.W.mg_of X G a10) b10
  have C_plain_wall : Callee l.prog w K mg base (caL [e0, e1, e2, e3, e4, e5, eH]) "plain_wall" 2 f_plain_wall 1 := callee_of F3 (ok_plain_wall T C_divisor F3) (PySem.W.mg_of X G a3) b3
  have C__law_plain : Callee l.prog w K mg base (caL [e0, e1, e2, e3, e4, e5, eH]) "_law_plain" 2 f__law_plain 1 := callee_of F9 (ok__law_plain T C__law_divisor F9) (PySem.W.mg_of X G a9) b9
  have CR__law_told : CalleeR l.prog w K mg base (caL [e0, e1, e2, e3, e4, e5, eH]) "_law_told" 2 f__law_told 1 := calleeR_of F11 (ok__law_told T C__law_whole TX exNo F11) (PySem.W.mg_of X G a11) b11
  have CR__law_shown : CalleeR l.prog w K mg base (caL [e0, e1, e2, e3, e4, e5, eH]) "_law_shown" 2 f__law_shown 2 := calleeR_of F15 (ok__law_shown T M_Hall_walls C__law_whole F15) (PySem.W.mg_of X G a15) b15
  have C_wall : Callee l.prog w K mg base (caL [e0, e1, e2, e3, e4, e5, eH]) "wall" 3 f_wall 1 := callee_of F4 (ok_wall T C_plain_wall TX NX F4) (PySem.W.mg_of X G a4) b4
  have CQ__law_took : CalleeQ l.prog w K mg base (caL [e0, e1, e2, e3, e4, e5, eH]) "_law_took" 3 f__law_took 2 := calleeQ_of F13 (ok__law_took T M_Hall_take CR__law_told TX F13) (PySem.W.mg_of X G a13) b13
  have M_Hall_put : MetP l.prog w K mg base (caL [e0, e1, e2, e3, e4, e5, eH]) "put" 4 f_Hall_put := ⟨⟨_, _, _, TH.c, ⟨a5, i5, k5⟩, ok_Hall_put T C_wall TX NX TH F5, b5⟩⟩
  have CQ__law_put : CalleeQ l.prog w K mg base (caL [e0, e1, e2, e3, e4, e5, eH]) "_law_put" 5 f__law_put 2 := calleeQ_of F12 (ok__law_put T M_Hall_put CR__law_told TX F12) (PySem.W.mg_of X G a12) b12
  have CQ__law_done : CalleeQ l.prog w K mg base (caL [e0, e1, e2, e3, e4, e5, eH]) "_law_done" 6 f__law_done 4 := calleeQ_of F14 (ok__law_done T C__law_plain C__law_row CQ__law_put CQ__law_took F14) (PySem.W.mg_of X G a14) b14
  exact law_of (ca := (caL [e0, e1, e2, e3, e4, e5, eH])) (ok_law T C__law_cell_at CQ__law_done CR__law_shown TH MH F16) ht
theorem walk {l : PySem.W.OpenLaw} {q : Program} {loose : List Str} {XP : (Str → Option Value) → Heap → Prop} {YP : World → Heap → Prop} {d : DefRec} {K : Params → PySem.W.Frag} (hn : l.most = some 63) (hdf : d.params.defaults = [])
    (hY : ∀ (w : World) (h : Heap), YP w h → (K w.params).In h)
    (F : ∀ (w : World) (mg : Str → Option Value) (fa : Addr) (h : Heap), (K w.params).In h → h.Ns mainGlobals mg → mg d.name = some (.ref fa) →
      ∃ fd : FuncData, (∀ (s : Shared) (u : Value), BindsTo s fd ⟨[u], []⟩ [("_law_script", u)]) ∧ ∀ base : Heap, (K w.params).In base → base.Ns mainGlobals mg → FnOk l.prog w (K w.params) mg base (L2.CX l.prog w) 7 fa fd ["_law_script"] (spTrue (K w.params))) :
    PySem.W.WalkO q loose XP YP l.row.toRowW d [] (fun f vs => PySem.call f vs) :=
  L2.walk_of (n := 63) (k := 7) (x := "_law_script") (CX := fun w => L2.CX l.prog w) (sp := fun w => spTrue (K w.params)) hn (by decide) hdf ⟨rfl, by decide, by decide⟩ hY F (fun _ _ a ns hl _ hS => ⟨a, ns, rfl, hS, hl, fun _ => rfl⟩) fun _ _ _ _ _ z => by obtain ⟨_, _, _, _, _, _, _, _, _, _, _, _, z⟩ := z; exact z
end PF

namespace PF
open PySem L2
theorem ev_divisor (a b : Int) : f_divisor [.int a, .int b] = .ok (.sh (.int (Int.gcd a b))) := by
  unfold f_divisor
  rw [fnOf2]
  have h := gcd_loop (C := p2_divisor) (B := p1_divisor) (fun x y => by simp [p2_divisor]) (fun x y hy => by simp [p1_divisor, fz1_eq, modD_ok (show y ≠ 0 by omega)]) b.natAbs a.natAbs b.natAbs (by omega) (by omega) (by omega)
  rw [gcd_abs] at h
  simp [b_divisor, abs_if, h]
theorem ev_ldivisor (a b : Int) : f__law_divisor [.int a, .int b] = .ok (.sh (.int (Int.gcd a b))) := by
  unfold f__law_divisor
  rw [fnOf2]
  have h := gcd_loop (C := p2__law_divisor) (B := p1__law_divisor) (fun x y => by simp [p2__law_divisor]) (fun x y hy => by simp [p1__law_divisor, fz1_eq, modD_ok (show y ≠ 0 by omega)]) b.natAbs a.natAbs b.natAbs (by omega) (by omega) (by omega)
  rw [gcd_abs] at h
  simp [b__law_divisor, abs_if, h]
theorem ev_lcell (ns : List Int) (k : Nat) : f__law_cell_at [.list (ns.map .int), .int k] = .ok (.sh (.int (ns.getD k 0))) := by
  have hl : (ns.map PyData.int).length = ns.length := List.length_map _
  by_cases h : k < ns.length
  · have hg : getP (ns.map PyData.int) (k : Int) = .ok (.int ns[k]) := getP_nat (by rw [List.getElem?_map, List.getElem?_eq_getElem h]; rfl)
    simp [f__law_cell_at, fnOf2, b__law_cell_at, hl, h, hg]
  · have e : ns.getD k 0 = 0 := by rw [List.getD_eq_getElem?_getD, List.getElem?_eq_none (by omega)]; rfl
    simp [f__law_cell_at, fnOf2, b__law_cell_at, hl, h, e]
theorem ev_lwhole (a : Int) : f__law_whole [.int a] = .ok (.sh (.bool true)) := by
  simp [f__law_whole, fnOf1, b__law_whole]
theorem fmod_bd (a m : Int) (h : 0 < m) : 0 ≤ a.fmod m ∧ a.fmod m < m := ⟨Int.fmod_nonneg_of_pos a h, Int.fmod_lt_of_pos a h⟩
theorem ev_plain_wall (ys : List Int) (z : Int) (hn : ∃ y ∈ ys, y ≠ 0) (hb : ∀ x ∈ ys ++ [z], x.natAbs < 2 ^ 9000) (hl : ys.length ≤ 1000) : f_plain_wall [.list ((ys ++ [z]).map .int)] = .ok (.sh (TD (plainL (ys ++ [z])))) := by
  obtain ⟨hd, tl, hf, hne, hlead, _⟩ := lead_init (z := z) hn
  have hn2 : ∃ x ∈ ys ++ [z], x ≠ 0 := by
    obtain ⟨y, hy, h0⟩ := hn
    exact ⟨y, List.mem_append_left _ hy, h0⟩
  have hlen : (ys ++ [z]).length ≤ 1001 := by rw [List.length_append, List.length_singleton]; omega
  have ecut : cutP ((ys ++ [z]).map PyData.int) none (some (-1)) = ys.map .int := by rw [cutP_init, List.map_append, List.map_singleton, List.dropLast_concat]
  obtain ⟨x, hx, hx0⟩ := id hn2
  have hdv : ∀ a, divOk a (plainBy (ys ++ [z])) := fun a => divOk_of (plainBy_ne hn2) (by rw [plainBy_abs]; exact Nat.lt_of_le_of_lt (gcdL_le hx hx0) (hb x hx)) (Nat.le_refl _)
  have eT : TD (plainL (ys ++ [z])) = .tuple ((ys ++ [z]).map fun x => PyData.int (x.fdiv (plainBy (ys ++ [z])))) := by unfold TD plainL; rw [List.map_map]; rfl
  rw [eT]
  have hg : gcdL (ys ++ [z]) = (ys ++ [z]).foldl gcdF 0 := rfl
  have eby : plainBy (ys ++ [z]) = if hd < 0 then 0 - gcdL (ys ++ [z]) else gcdL (ys ++ [z]) := by unfold plainBy; rw [hlead]
  generalize hG : ys ++ [z] = row at *
  obtain ⟨ρ', el, g, x2, eg, rfl⟩ := for_inv (T := tgN 2) (B := p1_plain_wall) (ds := row.map PyData.int) (ρ := [.sh (.list (row.map .int)), .sh (.int 0), .no, .no])
    (fun i ρ => ∃ (g : Int) (x2 : Sl), g = (row.take i).foldl gcdF 0 ∧ ρ = [.sh (.list (row.map .int)), .sh (.int g), x2, .no])
    ⟨0, .no, rfl, rfl⟩ (fun i d ρ hd hI => by
      obtain ⟨g, x2, eg, rfl⟩ := hI
      rw [List.getElem?_map] at hd
      obtain ⟨a, ha, rfl⟩ := Option.map_eq_some_iff.mp hd
      refine ⟨_, _, rfl, ?_, gcdF g a, .sh (.int a), ?_, rfl⟩
      · simp [p1_plain_wall, fz1_eq, ev_divisor, gcdF]
      · have : row.take (i + 1) = row.take i ++ [a] := by rw [List.take_add_one, ha]; rfl
        rw [this, List.foldl_append, ← eg]
        rfl)
  rw [List.length_map, List.take_of_length_le (Nat.le_refl _), ← hg] at eg
  subst eg
  have lc1 := lcS_of (S := fIt itemsL (fSh (fSl (fVarB 0) fNone (fSome (fUn negD (fC (.int 1))))))) (T := tgN 2) (C := fB (fOp neD (fVarB 2) (fC (.int 0)))) (F := fVarS 2) (vs := [2])
    (ρ := [.sh (.list (row.map .int)), .sh (.int (gcdL row)), x2, .no]) ys PyData.int (fun i => i != 0) PyData.int (by simp [ecut]) (fun x _ => ⟨_, rfl, (by simp [wipeE]; show (x == 0) = !(!(x == 0)); rw [Bool.not_not]), fun _ => by simp [wipeE]⟩) (by have : (lim : Nat) = 1000000 := rfl; omega)
  rw [hf] at lc1
  have lc2 : ∀ S3 : Sl, fLcS (fIt itemsL (fVarB 0)) (tgN 2) fYes (fOp divD (fVarB 2) (fVarB 1)) [2] [.sh (.list (row.map .int)), .sh (.int (plainBy row)), x2, S3] = .ok (.ol (row.map fun x => PyData.int (x.fdiv (plainBy row)))) := fun S3 =>
    lcS_map row PyData.int _ (by simp) (fun x _ => ⟨_, rfl, by simp [wipeE, divD_ok (hdv _)]⟩) (by have : (lim : Nat) = 1000000 := rfl; omega)
  generalize row.map (fun x => PyData.int (x.fdiv (plainBy row))) = OUT at *
  simp only [List.map_cons] at lc1
  by_cases hneg : hd < 0
  · rw [if_pos hneg, Int.zero_sub] at eby
    rw [eby] at lc2
    simp [f_plain_wall, fnOf1, b_plain_wall, el, lc1, hneg, lc2]
  · rw [if_neg hneg] at eby
    rw [eby] at lc2
    simp [f_plain_wall, fnOf1, b_plain_wall, el, lc1, hneg, lc2]
theorem any_of_ne {ys : List Int} (hn : ∃ y ∈ ys, y ≠ 0) : (ys.any fun i => i != 0) = true := by
  obtain ⟨y, hy, h0⟩ := hn
  exact List.any_eq_true.mpr ⟨y, hy, by simpa using h0⟩
theorem ev_wall (ys : List Int) (z : Int) (hn : ∃ y ∈ ys, y ≠ 0) (hb : ∀ x ∈ ys ++ [z], x.natAbs < 2 ^ 9000) (hl : ys.length ≤ 1000) : f_wall [.list ((ys ++ [z]).map .int)] = .ok (.sh (TD (plainL (ys ++ [z])))) := by
  have e := ev_plain_wall ys z hn hb hl
  have ecut : cutP ((ys ++ [z]).map PyData.int) none (some (-1)) = ys.map .int := by rw [cutP_init, List.map_append, List.map_singleton, List.dropLast_concat]
  have ea : anyD (.list (ys.map .int)) = .ok (.bool true) := by rw [anyD_list, any_of_ne hn]
  generalize (ys ++ [z]).map PyData.int = R at *
  simp [f_wall, fnOf1, b_wall, ecut, ea, e]
theorem ev_lplainL (row : List Int) (hn : ∃ x ∈ row, x ≠ 0) (hb : ∀ x ∈ row, x.natAbs < 2 ^ 9000) (hl : row.length ≤ 1000) : f__law_plain [.list (row.map .int)] = .ok (.sh (TD (plainL row))) := by
  obtain ⟨h, _⟩ := for_fold (T := tgN 3) (B := p1__law_plain) (σ := Int × Int × Sl) (fun s => [.sh (.list (row.map .int)), .sh (.int s.1), .sh (.int s.2.1), s.2.2]) PyData.int plainF (fun _ => True)
    row (0, 0, .no) trivial fun s a _ _ => ⟨trivial, _, rfl, by
      by_cases h0 : s.2.1 = 0
      · simp [p1__law_plain, ev_ldivisor, plainF, gcdF, leadF, fz1_eq, h0]
      · simp [p1__law_plain, ev_ldivisor, plainF, gcdF, leadF, fz1_eq, h0]⟩
  obtain ⟨y, hy⟩ := plainF_fold row (0, 0, .no)
  rw [hy] at h
  have h : forF (tgN 3) p1__law_plain (row.map .int) [.sh (.list (row.map .int)), .sh (.int 0), .sh (.int 0), .no] = .ok (.nx [.sh (.list (row.map .int)), .sh (.int (gcdL row)), .sh (.int (leadL row)), y]) := h
  obtain ⟨x, hx, hx0⟩ := id hn
  have hdv : ∀ a, divOk a (plainBy row) := fun a => divOk_of (plainBy_ne hn) (by rw [plainBy_abs]; exact Nat.lt_of_le_of_lt (gcdL_le hx hx0) (hb x hx)) (Nat.le_refl _)
  have lc : ∀ z : Sl, fLcS (fIt itemsL (fVarB 0)) (tgN 3) fYes (fOp divD (fVarB 3) (fVarB 1)) [3] [.sh (.list (row.map .int)), .sh (.int (plainBy row)), .sh (.int (leadL row)), z] = .ok (.ol (row.map fun x => PyData.int (x.fdiv (plainBy row)))) := fun z =>
    lcS_map row PyData.int _ (by simp) (fun x _ => ⟨_, rfl, by simp [wipeE, divD_ok (hdv _)]⟩) (Nat.le_trans hl (by decide))
  have e2 : TD (plainL row) = .tuple (row.map fun x => PyData.int (x.fdiv (plainBy row))) := by unfold TD plainL; rw [List.map_map]; rfl
  rw [e2]
  generalize row.map (fun x => PyData.int (x.fdiv (plainBy row))) = OUT at *
  generalize row.map PyData.int = R at *
  by_cases hneg : leadL row < 0
  · have e3 : plainBy row = -gcdL row := by unfold plainBy; rw [if_pos hneg]; omega
    rw [e3] at lc
    simp [f__law_plain, fnOf1, b__law_plain, h, hneg, lc]
  · have e3 : plainBy row = gcdL row := by unfold plainBy; rw [if_neg hneg]
    rw [e3] at lc
    simp [f__law_plain, fnOf1, b__law_plain, h, hneg, lc]
theorem ev_wall_no (ys : List Int) (z : Int) (hn : ∀ y ∈ ys, y = 0) : f_wall [.list ((ys ++ [z]).map .int)] = .err ⟨5, some 0⟩ := by
  have ecut : cutP ((ys ++ [z]).map PyData.int) none (some (-1)) = ys.map .int := by rw [cutP_init, List.map_append, List.map_singleton, List.dropLast_concat]
  have ea : anyD (.list (ys.map .int)) = .ok (.bool false) := by
    rw [anyD_list]
    have : (ys.any fun i => i != 0) = false := List.any_eq_false.mpr fun y hy => by rw [hn y hy]; decide
    rw [this]
  generalize (ys ++ [z]).map PyData.int = R at *
  simp [f_wall, fnOf1, b_wall, ecut, ea]
/-! ### what a hall does -/
theorem fnS_eq {np n : Nat} {F : Env → Rs Out} {ss : List Sl} (h : ss.length = np) : fnS np n F ss = outV (F (ss ++ List.replicate (n - np) Sl.no)) := if_pos h
theorem ev_walls (m : Int) (ds : List PyData) : f_Hall_walls [.hal m ds] = .ok (.ol ds) := by
  unfold f_Hall_walls
  rw [fnS_eq (np := 1) rfl]
  rfl
theorem ev_take_no (m p : Int) (ds : List PyData) (h : ¬ (0 ≤ p ∧ p < ds.length)) : f_Hall_take m ds (.int p) = .err ⟨3, none⟩ := by
  show b_Hall_take [.hal m ds, .sh (.int p)] = _
  have e : ∀ ρ, fHalS 0 (.hal m ds :: ρ) = .ok (.list ds) := fun _ => rfl
  unfold b_Hall_take rSeq
  by_cases h1 : p < 0
  · simp [e, h1]
  · have h2 : (ds.length : Int) ≤ p := by omega
    simp [e, h1, h2]
theorem erase_cut (ds : List PyData) (p : Nat) : ds.take p ++ ds.drop (p + 1) = ds.eraseIdx p := (List.eraseIdx_eq_take_drop_succ ds p).symm
theorem ev_take (m : Int) (p : Nat) (ds : List PyData) (h : p < ds.length) (hl : ds.length ≤ 1000) : f_Hall_take m ds (.int p) = .ok (ds.eraseIdx p) := by
  show b_Hall_take [.hal m ds, .sh (.int p)] = _
  have e : ∀ ρ, fHalS 0 (.hal m ds :: ρ) = .ok (.list ds) := fun _ => rfl
  have h1 : ¬ ((p : Int) < 0) := by omega
  have h2 : ¬ ((ds.length : Int) ≤ p) := by omega
  have c1 := cutP_take ds p
  have c2 : cutP ds (some ((p : Int) + 1)) none = ds.drop (p + 1) := cutP_drop ds (p + 1)
  have ha : addD (.list (ds.take p)) (.list (ds.drop (p + 1))) = .ok (.ol (ds.eraseIdx p)) := by
    rw [addD_list (by rw [List.length_take, List.length_drop]; have : (lim : Nat) = 1000000 := rfl; omega), erase_cut]
  unfold b_Hall_take rSeq rLast
  simp [e, h1, h2, c1, c2, ha, slL]
theorem ev_put_no (m : Int) (ds : List PyData) (ys : List Int) (z : Int) (hn : ∀ y ∈ ys, y = 0) : f_Hall_put m ds (.list ((ys ++ [z]).map .int)) = .err ⟨5, some 0⟩ := by
  show b_Hall_put [.hal m ds, .sh (.list ((ys ++ [z]).map .int)), .no] = _
  have e := ev_wall_no ys z hn
  generalize (ys ++ [z]).map PyData.int = R at *
  unfold b_Hall_put rSeq
  simp [e]
theorem has_idx {W : List (List Int)} {r : List Int} (h : hasTD W r = true) : ∃ j : Nat, idxD (W.map TD) (TD r) = .ok (.int j) := by
  have h1 := dok_shaped ((dok_TD r).mono (show 1 ≤ 60 by decide))
  have h2 := dok_shaped ((dok_LTD W).mono (show 2 ≤ 60 by decide))
  unfold idxD
  rw [if_pos ⟨h2, h1⟩]
  cases hj : (W.map TD).findIdx? fun z => PyData.eqv z (TD r) with
  | some j => exact ⟨j, rfl⟩
  | none =>
    obtain ⟨x, hx, hx2⟩ := List.any_eq_true.mp h
    have := List.findIdx?_eq_none_iff.mp hj x hx
    rw [hx2] at this
    cases this
theorem ev_put_old (m : Int) (W : List (List Int)) (ys : List Int) (z : Int) (hn : ∃ y ∈ ys, y ≠ 0) (hb : ∀ x ∈ ys ++ [z], x.natAbs < 2 ^ 9000) (hl : ys.length ≤ 1000) (h : hasTD W (plainL (ys ++ [z])) = true) {j : Nat} (hj : idxD (W.map TD) (TD (plainL (ys ++ [z]))) = .ok (.int j)) :
    f_Hall_put m (W.map TD) (.list ((ys ++ [z]).map .int)) = .err ⟨5, some j⟩ := by
  show b_Hall_put [.hal m (W.map TD), .sh (.list ((ys ++ [z]).map .int)), .no] = _
  have e := ev_wall ys z hn hb hl
  have e0 : ∀ ρ, fHalS 0 (.hal m (W.map TD) :: ρ) = .ok (.list (W.map TD)) := fun _ => rfl
  have hi := inD_TD W (plainL (ys ++ [z]))
  rw [h] at hi
  generalize TD (plainL (ys ++ [z])) = w at *
  generalize (ys ++ [z]).map PyData.int = R at *
  unfold b_Hall_put rSeq
  simp [e, e0, hi, fIdx, hj]
theorem ev_put (m : Int) (W : List (List Int)) (ys : List Int) (z : Int) (hn : ∃ y ∈ ys, y ≠ 0) (hb : ∀ x ∈ ys ++ [z], x.natAbs < 2 ^ 9000) (hl : ys.length ≤ 1000) (h : hasTD W (plainL (ys ++ [z])) = false) (hW : W.length ≤ 1000) :
    f_Hall_put m (W.map TD) (.list ((ys ++ [z]).map .int)) = .ok ((W ++ [plainL (ys ++ [z])]).map TD) := by
  show b_Hall_put [.hal m (W.map TD), .sh (.list ((ys ++ [z]).map .int)), .no] = _
  have e := ev_wall ys z hn hb hl
  have e0 : ∀ ρ, fHalS 0 (.hal m (W.map TD) :: ρ) = .ok (.list (W.map TD)) := fun _ => rfl
  have hi := inD_TD W (plainL (ys ++ [z]))
  rw [h] at hi
  have ha : ∀ w, addD (.list (W.map TD)) (.list [w]) = .ok (.ol (W.map TD ++ [w])) := fun w => addD_list (by rw [List.length_map, List.length_singleton]; have : (lim : Nat) = 1000000 := rfl; omega)
  rw [show ((W ++ [plainL (ys ++ [z])]).map TD) = W.map TD ++ [TD (plainL (ys ++ [z]))] by rw [List.map_append, List.map_singleton]]
  generalize TD (plainL (ys ++ [z])) = w at *
  generalize (ys ++ [z]).map PyData.int = R at *
  unfold b_Hall_put rSeq rLast
  simp [e, e0, hi, ha, slL]
/-! ### what the law tells of it -/
theorem app_one (d : PyData) : appD [] [d] = .ok [d] := appD_ok (ds := []) (by show 0 < 1000000; decide)
theorem ev_told0 : f__law_told [.sh .none] = .ok (.ol []) := by
  unfold f__law_told
  rw [fnS_eq (np := 1) rfl]
  simp [b__law_told]
theorem ev_toldW (p : Int) : f__law_told [.exn ⟨5, some p⟩] = .ok (.ol [.tuple [.str "wall", .int p]]) := by
  unfold f__law_told
  rw [fnS_eq (np := 1) rfl]
  simp [b__law_told, ev_lwhole, eOk, app_one]
theorem ev_toldP : f__law_told [.exn ⟨3, none⟩] = .ok (.ol [.str "place"]) := by
  unfold f__law_told
  rw [fnS_eq (np := 1) rfl]
  simp [b__law_told, eOk, app_one]
/-! ### texts over slots, reckoned -/
theorem q_seq (F F' : Env → Rs OutZ) (S : Env) : zSeq F F' S = afterZ (F S) F' := rfl
theorem q_anx (S : Env) (k : Env → Rs OutZ) : afterZ (.ok (.nx S)) k = k S := rfl
theorem q_art (d : PyData) (S : Env) (k : Env → Rs OutZ) : afterZ (.ok (.rt d S)) k = .ok (.rt d S) := rfl
theorem q_lift {n : Nat} {F : Env → Rs Out} {S ρ' : Env} (h : F (S.take n) = .ok (.nx ρ')) (h1 : ρ'.all notHal = true) (h2 : ρ'.length = n) : zLift none n F S = .ok (.nx (ρ' ++ S.drop n)) := by
  unfold zLift
  rw [show vw none n S = .ok (S.take n) from rfl, z_ok, h, z_ok]
  exact if_pos ⟨h1, h2⟩
theorem q_rd {α : Type} {n : Nat} {F : Env → Rs α} {S : Env} {a : α} (h : F (S.take n) = .ok a) : zRd none n F S = .ok (a, S) := by
  show (F (S.take n) >>= fun d => .ok (d, S)) = _
  rw [h]
  rfl
theorem q_if (F : Env → Rs (Bool × Env)) (A B : Env → Rs OutZ) {S S' : Env} {b : Bool} (h : F S = .ok (b, S')) : zIf F A B S = if b = true then A S' else B S' := by
  unfold zIf
  rw [h]
  rfl
theorem q_ret {F : Env → Rs (PyData × Env)} {S S' : Env} {d : PyData} (h : F S = .ok (d, S')) : zRet F S = .ok (.rt d S') := by
  unfold zRet
  rw [h]
  rfl
theorem fnQ_ok {np n hi : Nat} {oj : Option Nat} {F : Env → Rs OutZ} {ss : List Sl} {d : PyData} {S : Env} (h1 : shapeQ np hi oj ss = true) (h2 : hi < np) (h : F (initQ n np hi ss) = .ok (.rt d S)) : fnQ np n hi oj F ss = .ok (d, outQ n hi oj ss S) := by
  unfold fnQ
  rw [if_pos ⟨h1, h2⟩, h]
  rfl
theorem ev_lput (m : Int) (ds ds' : List PyData) (row : List PyData) (t : List PyData) (h : (f_Hall_put m ds (.list row) = .ok ds' ∧ lfreeAll ds' = true ∧ t = []) ∨ (∃ p, f_Hall_put m ds (.list row) = .err ⟨5, some p⟩ ∧ ds' = ds ∧ t = [.tuple [.str "wall", .int p]])) :
    f__law_put [.hal m ds, .ol row] = .ok (.list t, [.hal m ds', .ol row]) := by
  have e1 : zLift none 4 (fSet 2 (fV (fC .none))) [.no, .ol row, .no, .no, .hal m ds] = .ok (.nx [.no, .ol row, .sh .none, .no, .hal m ds]) := q_lift (ρ' := [.no, .ol row, .sh .none, .no]) rfl rfl rfl
  rcases h with ⟨h, hf, rfl⟩ | ⟨p, h, rfl, rfl⟩
  · have e2 : zTryL 4 0 3 2 1 f_Hall_put [.no, .ol row, .sh .none, .no, .hal m ds] = .ok (.nx [.no, .ol row, .sh .none, .no, .hal m ds']) := by
      show tryK 4 0 3 2 _ m (f_Hall_put m ds (.list row)) = _
      rw [h]
      exact if_pos hf
    have e3 : zRet (zRd none 4 (fSh (fun ρ => fSVar 2 fSNil ρ >>= f__law_told))) [.no, .ol row, .sh .none, .no, .hal m ds'] = .ok (.rt (.list []) [.no, .ol row, .sh .none, .no, .hal m ds']) := q_ret (q_rd (by
      show (f__law_told [.sh .none] >>= slShare) = _
      rw [ev_told0]
      rfl))
    refine fnQ_ok (S := [.no, .ol row, .sh .none, .no, .hal m ds']) rfl (by decide) ?_
    show b__law_put [.no, .ol row, .no, .no, .hal m ds] = _
    unfold b__law_put
    rw [q_seq, e1, q_anx, q_seq, e2, q_anx, e3]
  · have e2 : zTryL 4 0 3 2 1 f_Hall_put [.no, .ol row, .sh .none, .no, .hal m ds'] = .ok (.nx [.no, .ol row, .exn ⟨5, some p⟩, .no, .hal m ds']) := by
      show tryK 4 0 3 2 _ m (f_Hall_put m ds' (.list row)) = _
      rw [h]
      rfl
    have e3 : zRet (zRd none 4 (fSh (fun ρ => fSVar 2 fSNil ρ >>= f__law_told))) [.no, .ol row, .exn ⟨5, some p⟩, .no, .hal m ds'] = .ok (.rt (.list [.tuple [.str "wall", .int p]]) [.no, .ol row, .exn ⟨5, some p⟩, .no, .hal m ds']) := q_ret (q_rd (by
      show (f__law_told [.exn ⟨5, some p⟩] >>= slShare) = _
      rw [ev_toldW]
      rfl))
    refine fnQ_ok (S := [.no, .ol row, .exn ⟨5, some p⟩, .no, .hal m ds']) rfl (by decide) ?_
    show b__law_put [.no, .ol row, .no, .no, .hal m ds'] = _
    unfold b__law_put
    rw [q_seq, e1, q_anx, q_seq, e2, q_anx, e3]
theorem ev_ltook (m p : Int) (ds ds' : List PyData) (t : List PyData) (h : (f_Hall_take m ds (.int p) = .ok ds' ∧ t = []) ∨ (f_Hall_take m ds (.int p) = .err ⟨3, none⟩ ∧ ds' = ds ∧ t = [.str "place"])) :
    f__law_took [.hal m ds, .sh (.int p)] = .ok (.list t, [.hal m ds', .sh (.int p)]) := by
  have e1 : zLift none 4 (fSet 2 (fV (fC .none))) [.no, .sh (.int p), .no, .no, .hal m ds] = .ok (.nx [.no, .sh (.int p), .sh .none, .no, .hal m ds]) := q_lift (ρ' := [.no, .sh (.int p), .sh .none, .no]) rfl rfl rfl
  have e0 : zTry 4 0 3 2 f_Hall_take (fVarS 1) [.no, .sh (.int p), .sh .none, .no, .hal m ds] = (match f_Hall_take m ds (.int p) with
    | .ok ds' => .ok (.nx [.no, .sh (.int p), .sh .none, .no, .hal m ds'])
    | .err x => if eOk x.cls ∧ 3 < 4 ∧ 2 < 4 then .ok (.nx [.no, .sh (.int p), .exn x, .no, .hal m ds]) else .stuck
    | .stuck => .stuck) := rfl
  rcases h with ⟨h, rfl⟩ | ⟨h, rfl, rfl⟩
  · have e2 : zTry 4 0 3 2 f_Hall_take (fVarS 1) [.no, .sh (.int p), .sh .none, .no, .hal m ds] = .ok (.nx [.no, .sh (.int p), .sh .none, .no, .hal m ds']) := by rw [e0, h]
    have e3 : zRet (zRd none 4 (fSh (fun ρ => fSVar 2 fSNil ρ >>= f__law_told))) [.no, .sh (.int p), .sh .none, .no, .hal m ds'] = .ok (.rt (.list []) [.no, .sh (.int p), .sh .none, .no, .hal m ds']) := q_ret (q_rd (by
      show (f__law_told [.sh .none] >>= slShare) = _
      rw [ev_told0]
      rfl))
    refine fnQ_ok (S := [.no, .sh (.int p), .sh .none, .no, .hal m ds']) rfl (by decide) ?_
    show b__law_took [.no, .sh (.int p), .no, .no, .hal m ds] = _
    unfold b__law_took
    rw [q_seq, e1, q_anx, q_seq, e2, q_anx, e3]
  · have e2 : zTry 4 0 3 2 f_Hall_take (fVarS 1) [.no, .sh (.int p), .sh .none, .no, .hal m ds'] = .ok (.nx [.no, .sh (.int p), .exn ⟨3, none⟩, .no, .hal m ds']) := by
      rw [e0, h]
      exact if_pos ⟨by decide, by decide, by decide⟩
    have e3 : zRet (zRd none 4 (fSh (fun ρ => fSVar 2 fSNil ρ >>= f__law_told))) [.no, .sh (.int p), .exn ⟨3, none⟩, .no, .hal m ds'] = .ok (.rt (.list [.str "place"]) [.no, .sh (.int p), .exn ⟨3, none⟩, .no, .hal m ds']) := q_ret (q_rd (by
      show (f__law_told [.exn ⟨3, none⟩] >>= slShare) = _
      rw [ev_toldP]
      rfl))
    refine fnQ_ok (S := [.no, .sh (.int p), .exn ⟨3, none⟩, .no, .hal m ds']) rfl (by decide) ?_
    show b__law_took [.no, .sh (.int p), .no, .no, .hal m ds'] = _
    unfold b__law_took
    rw [q_seq, e1, q_anx, q_seq, e2, q_anx, e3]
theorem ev_shown (m : Int) (W : List (List Int)) (hW : W.length ≤ 1000) (hR : ∀ r ∈ W, r.length ≤ lim) : f__law_shown [.hal m (W.map TD), .sh (.list (W.map TD))] = .ok (.sh (.bool true)) := by
  unfold f__law_shown
  rw [fnS_eq (np := 2) rfl]
  show outV (b__law_shown [.hal m (W.map TD), .sh (.list (W.map TD)), .no, .no, .no]) = _
  have em : ∀ ρ, fMet0 0 f_Hall_walls (.hal m (W.map TD) :: ρ) = .ok (.ol (W.map TD)) := fun ρ => by
    show f_Hall_walls [.hal m (W.map TD)] = _
    rw [ev_walls]
  have hn := neD_self ((dok_LTD W).mono (show 2 ≤ 60 by decide))
  have hq := eqD_self ((dok_LTD W).mono (show 2 ≤ 60 by decide))
  have lp : ∀ x3, ∃ y3, fForQ 2 (tgN 3) p1__law_shown [.hal m (W.map TD), .sh (.list (W.map TD)), .ol (W.map TD), x3, .no] = .ok (.nx [.hal m (W.map TD), .sh (.list (W.map TD)), .ol (W.map TD), y3, .no]) := fun x3 => by
    have key : ∀ k n x3, n = W.length - k + 1 → ∃ y3, forQ 2 (tgN 3) p1__law_shown n k [.hal m (W.map TD), .sh (.list (W.map TD)), .ol (W.map TD), x3, .no] = .ok (.nx [.hal m (W.map TD), .sh (.list (W.map TD)), .ol (W.map TD), y3, .no]) := by
      intro k n
      induction n generalizing k with
      | zero => intro x3 h; omega
      | succ n ih =>
        intro x3 h
        unfold forQ
        by_cases hk : k < W.length
        · have hd : (W.map TD)[k]? = some (TD W[k]) := by rw [List.getElem?_map, List.getElem?_eq_getElem hk]; rfl
          show ∃ y3, (match (W.map TD)[k]? with
            | some d => (match tgN 3 d [.hal m (W.map TD), .sh (.list (W.map TD)), .ol (W.map TD), x3, .no] with
              | some ρ' => after (p1__law_shown ρ') (forQ 2 (tgN 3) p1__law_shown n (k + 1))
              | none => .stuck)
            | none => .ok (.nx [.hal m (W.map TD), .sh (.list (W.map TD)), .ol (W.map TD), x3, .no])) = _
          rw [hd]
          show ∃ y3, after (p1__law_shown [.hal m (W.map TD), .sh (.list (W.map TD)), .ol (W.map TD), .sh (TD W[k]), .no]) (forQ 2 (tgN 3) p1__law_shown n (k + 1)) = _
          have lc := lcS_of (S := fIt itemsT (fVarS 3)) (T := tgN 4) (C := fNot (fB (fSh (fCall f__law_whole (fCons (fVarS 4) fNil))))) (F := fVarS 4) (vs := [4]) (ρ := [.hal m (W.map TD), .sh (.list (W.map TD)), .ol (W.map TD), .sh (TD W[k]), .no])
            (W[k]) PyData.int (fun _ => false) PyData.int
          have e1 : p1__law_shown [.hal m (W.map TD), .sh (.list (W.map TD)), .ol (W.map TD), .sh (TD W[k]), .no] = .ok (.nx [.hal m (W.map TD), .sh (.list (W.map TD)), .ol (W.map TD), .sh (TD W[k]), .no]) := by
            have lc := lc rfl (fun x _ => ⟨_, rfl, by simp [wipeE, ev_lwhole], fun z => nomatch z⟩) (hR _ (List.getElem_mem hk))
            rw [List.filter_eq_nil_iff.mpr (fun _ _ => by decide)] at lc
            have ei : isiD "tuple" (TD W[k]) = .ok (.bool true) := z_isiT _
            generalize TD W[k] = w at *
            generalize W.map TD = D at *
            simp [p1__law_shown, lc, ei]
          rw [e1]
          exact ih (k + 1) _ (by omega)
        · have hd : (W.map TD)[k]? = none := List.getElem?_eq_none (by rw [List.length_map]; omega)
          show ∃ y3, (match (W.map TD)[k]? with
            | some d => (match tgN 3 d [.hal m (W.map TD), .sh (.list (W.map TD)), .ol (W.map TD), x3, .no] with
              | some ρ' => after (p1__law_shown ρ') (forQ 2 (tgN 3) p1__law_shown n (k + 1))
              | none => .stuck)
            | none => .ok (.nx [.hal m (W.map TD), .sh (.list (W.map TD)), .ol (W.map TD), x3, .no])) = _
          rw [hd]
          exact ⟨x3, rfl⟩
    have e0 : fForQ 2 (tgN 3) p1__law_shown [.hal m (W.map TD), .sh (.list (W.map TD)), .ol (W.map TD), x3, .no] = forQ 2 (tgN 3) p1__law_shown ((W.map TD).length + 1) 0 [.hal m (W.map TD), .sh (.list (W.map TD)), .ol (W.map TD), x3, .no] := rfl
    rw [e0]
    exact key 0 _ x3 (by rw [List.length_map]; omega)
  obtain ⟨y3, lp⟩ := lp .no
  have ha : appD (W.map TD) [.int 0] = .ok (W.map TD ++ [.int 0]) := if_pos (by rw [List.length_map]; have : (lim : Nat) = 1000000 := rfl; omega)
  generalize W.map TD = D at *
  unfold b__law_shown
  simp [em, hn, lp, ha, hq]
theorem cutP_last (l : List PyData) (d : PyData) : cutP (l ++ [d]) (some (-1)) none = [d] := by
  have h1 : HT.sIx (l ++ [d]).length 0 (some (-1)) = l.length := by
    rw [List.length_append, List.length_singleton]
    unfold HT.sIx
    simp
    omega
  have h2 : HT.sIx (l ++ [d]).length (l ++ [d]).length none = l.length + 1 := by
    rw [List.length_append, List.length_singleton]
    rfl
  unfold cutP
  rw [h1, h2, List.drop_left]
  rw [show l.length + 1 - l.length = 1 by omega]
  rfl
theorem eqD_consN {x : PyData} {xs : List PyData} (h : DOk 59 (.list (x :: xs))) : eqD (.list (x :: xs)) (.list []) = .ok (.bool false) ∧ neD (.list (x :: xs)) (.list []) = .ok (.bool true) := by
  have h1 : DOk 60 (.list (x :: xs)) := h.mono (by decide)
  have h2 : DOk 60 (.list []) := (dok_list (n := 0) (ds := []) fun _ h => nomatch h).mono (by decide)
  unfold eqD neD
  rw [if_pos ⟨dok_shaped h1, dok_shaped h2⟩, if_pos ⟨dok_shaped h1, dok_shaped h2⟩]
  exact ⟨by simp [PyData.eqv, PyData.eqvAll], by simp [PyData.eqv, PyData.eqvAll]⟩
theorem ev_lrow (W : List (List Int)) (w : Nat) (c : Int) (hw : w ≤ 4) (hW : W.length ≤ 1000) (hR : ∀ r ∈ W, r.length = w + 1 ∧ ∀ x ∈ r, x.natAbs < 2 ^ 9000) : ∃ R : List Int, R.length = w + 1 ∧ (∀ x ∈ R, x.natAbs < 2 ^ 9000) ∧ f__law_row [.list (W.map TD), .int w, .int c] = .ok (.ol (R.map .int)) := by
  have big : (300000000000000000001 : Nat) < 2 ^ 9000 := by
    refine Nat.lt_of_lt_of_le (m := 2 ^ 100) (by decide) (Nat.pow_le_pow_right (by decide) (by decide))
  have hlim : (lim : Nat) = 1000000 := rfl
  obtain ⟨ρ', el, R, n, x5, hl, hb, rfl⟩ := for_inv (T := tgN 5) (B := p1__law_row) (ds := (List.range (w + 1)).map natD) (ρ := [.sh (.list (W.map TD)), .sh (.int w), .sh (.int c), .ol [], .sh (.int c), .no, .no, .no])
    (fun i ρ => ∃ (R : List Int) (n : Int) (x5 : Sl), R.length = i ∧ (∀ x ∈ R, x.natAbs ≤ 2) ∧ ρ = [.sh (.list (W.map TD)), .sh (.int w), .sh (.int c), .ol (R.map .int), .sh (.int n), x5, .no, .no])
    ⟨[], c, .no, rfl, (by simp), rfl⟩ (fun i d ρ hd hI => by
      obtain ⟨R, n, x5, hl, hb, rfl⟩ := hI
      have hi : i < w + 1 := by
        have := (List.getElem?_eq_some_iff.mp hd).1
        rwa [List.length_map, List.length_range] at this
      have ha : ∀ d, appD (R.map PyData.int) [d] = .ok (R.map .int ++ [d]) := fun d => appD_ok (by rw [List.length_map]; omega)
      obtain ⟨m0, m1⟩ := fmod_bd n 5 (by decide)
      refine ⟨_, _, rfl, ?_, R ++ [n.fmod 5 - 2], n.fdiv 5, .sh d, by rw [List.length_append, hl]; rfl, fun x hx => ?_, rfl⟩
      · rw [List.map_append, List.map_singleton]
        generalize R.map PyData.int = RR at *
        simp [p1__law_row, modD_ok, divD_ok, divOk_lit, ha]
      · rcases List.mem_append.mp hx with hx | hx
        · exact hb x hx
        · rw [List.mem_singleton.mp hx]; omega)
  rw [List.length_map, List.length_range] at hl
  have er : rng1 [.int ((w : Int) + 1)] = .ok ((List.range (w + 1)).map natD) := rng1_nat (n := w + 1) (by rw [show (2 : Nat) ^ 60 = 1152921504606846976 from rfl]; omega)
  have er2 : rng1 [.int (w : Int)] = .ok ((List.range w).map natD) := rng1_nat (n := w) (by rw [show (2 : Nat) ^ 60 = 1152921504606846976 from rfl]; omega)
  have hb2 : ∀ x ∈ R, x.natAbs < 2 ^ 9000 := fun x hx => Nat.lt_of_le_of_lt (Nat.le_trans (hb x hx) (by decide)) big
  obtain ⟨g0, g1⟩ := fmod_bd n 5 (by decide)
  have e6 : modD (.int n) (.int 5) = .ok (.int (n.fmod 5)) := modD_ok (by decide)
  have hll : (W.map TD).length = W.length := List.length_map _
  by_cases c1 : n.fmod 5 = 1
  · -- so many times
    obtain ⟨k0, k1⟩ := fmod_bd (n.fdiv 5) 100000000000000000000 (by decide)
    have lc : ∀ z5, fLcS (fIt itemsL (fVarB 3)) (tgN 7) fYes (fOp mulD (fVarB 7) (fSh (fOp addD (fC (.int 1)) (fOp modD (fOp divD (fVarB 4) (fC (.int 5))) (fOp powD (fC (.int 10)) (fC (.int 20))))))) [7] [.sh (.list (W.map TD)), .sh (.int w), .sh (.int c), .ol (R.map .int), .sh (.int n), z5, .sh (.int 1), .no] = .ok (.ol (R.map fun x => PyData.int (x * (1 + (n.fdiv 5).fmod 100000000000000000000)))) := fun z5 =>
      lcS_map R PyData.int _ rfl (fun x hx => ⟨_, rfl, by
        have : mulD (.int x) (.int (1 + (n.fdiv 5).fmod 100000000000000000000)) = .ok (.int (x * (1 + (n.fdiv 5).fmod 100000000000000000000))) := mulD_ok (mulOk_left (by have := hb x hx; exact Nat.lt_of_le_of_lt this (by decide)))
        simp [wipeE, divD_ok, divOk_lit, modD_ok, this]⟩) (by omega)
    refine ⟨R.map fun x => x * (1 + (n.fdiv 5).fmod 100000000000000000000), by rw [List.length_map, hl], fun x hx => ?_, ?_⟩
    · obtain ⟨y, hy, rfl⟩ := List.mem_map.mp hx
      refine Nat.lt_of_le_of_lt ?_ big
      rw [Int.natAbs_mul]
      have h1 := hb y hy
      have h2 : (1 + (n.fdiv 5).fmod 100000000000000000000).natAbs ≤ 100000000000000000000 := by omega
      calc _ ≤ 2 * 100000000000000000000 := Nat.mul_le_mul h1 h2
        _ ≤ _ := by decide
    · rw [List.map_map]
      show _ = Rs.ok (Sl.ol (R.map fun x => PyData.int (x * (1 + (n.fdiv 5).fmod 100000000000000000000))))
      generalize (R.map fun x => PyData.int (x * (1 + (n.fdiv 5).fmod 100000000000000000000))) = OUT at *
      generalize (R.map PyData.int) = RR at *
      generalize W.map TD = WW at *
      rw [c1] at e6
      simp [f__law_row, fnOf, b__law_row, er, el, e6, lc]
  · have n1 : (n.fmod 5 == 1) = false := beq_eq_false_iff_ne.mpr c1
    by_cases c2 : n.fmod 5 = 2
    · -- all ways nought
      have hR0 : R ≠ [] := fun z => by rw [z] at hl; cases hl
      have hsp := List.dropLast_concat_getLast hR0
      have lc : ∀ z7, fLcS (fIt rng1 (fCons (fVarS 1) fNil)) (tgN 5) fYes (fC (.int 0)) [5] [.sh (.list (W.map TD)), .sh (.int w), .sh (.int c), .ol (R.map .int), .sh (.int n), x5, .sh (.int 2), z7] = .ok (.ol ((List.range w).map fun _ => PyData.int 0)) := fun z7 =>
        lcS_map (List.range w) natD _ (by simp [er2]) (fun x hx => ⟨_, rfl, rfl⟩) (by rw [List.length_range]; omega)
      have ecut : cutP (R.map PyData.int) (some (-1)) none = [.int (R.getLast hR0)] := by
        have e9 : R.map PyData.int = R.dropLast.map .int ++ [.int (R.getLast hR0)] := by
          have := congrArg (List.map PyData.int) hsp
          rw [List.map_append] at this
          exact this.symm
        rw [e9, cutP_last]
      have ha : addD (.list ((List.range w).map fun _ => PyData.int 0)) (.list [.int (R.getLast hR0)]) = .ok (.ol (((List.range w).map fun _ => PyData.int 0) ++ [.int (R.getLast hR0)])) := addD_list (by rw [List.length_map, List.length_range, List.length_singleton]; omega)
      refine ⟨((List.range w).map fun _ => 0) ++ [R.getLast hR0], by simp, fun x hx => ?_, ?_⟩
      · rcases List.mem_append.mp hx with hx | hx
        · obtain ⟨_, _, rfl⟩ := List.mem_map.mp hx
          exact Nat.lt_of_le_of_lt (Nat.zero_le _) big
        · rw [List.mem_singleton.mp hx]
          exact hb2 _ (List.getLast_mem hR0)
      · rw [List.map_append, List.map_singleton, List.map_map]
        show _ = Rs.ok (Sl.ol (((List.range w).map fun _ => PyData.int 0) ++ [.int (R.getLast hR0)]))
        generalize PyData.int (R.getLast hR0) = LA at *
        generalize ((List.range w).map fun _ => PyData.int 0) = OUT at *
        generalize (R.map PyData.int) = RR at *
        generalize W.map TD = WW at *
        rw [c2] at e6
        simp [f__law_row, fnOf, b__law_row, er, el, e6, lc, ecut, ha]
    · have n2 : (n.fmod 5 == 2) = false := beq_eq_false_iff_ne.mpr c2
      by_cases c3 : n.fmod 5 = 3 ∧ W ≠ []
      · -- a wall that stands there, turned
        obtain ⟨c3, hne⟩ := c3
        have hlen : 0 < W.length := List.length_pos_iff.mpr hne
        obtain ⟨i0, i1⟩ := fmod_bd (n.fdiv 5) W.length (by omega)
        have em : modD (.int (n.fdiv 5)) (.int (W.length : Int)) = .ok (.int ((n.fdiv 5).fmod W.length)) := modD_ok (by omega)
        generalize (n.fdiv 5).fmod W.length = i at *
        have hi : i.toNat < W.length := by omega
        have hg : getP (W.map TD) i = .ok (TD (W[i.toNat]'hi)) := getP_int i0 (by rw [List.getElem?_map, List.getElem?_eq_getElem hi]; rfl)
        obtain ⟨q1, q2⟩ := hR _ (List.getElem_mem hi)
        generalize W[i.toNat]'hi = r at *
        have nn : neD (.list (W.map TD)) (.list []) = .ok (.bool true) := by
          cases W with
          | nil => exact absurd rfl hne
          | cons a t => exact (eqD_consN ((dok_LTD (a :: t)).mono (by decide))).2
        have lc : ∀ z5 z7, fLcS (fIt itemsT (fOp ixD (fVarB 0) (fOp modD (fOp divD (fVarB 4) (fC (.int 5))) (fUn lenD (fVarB 0))))) (tgN 7) fYes (fOp subD (fC (.int 0)) (fVarB 7)) [7] [.sh (.list (W.map TD)), .sh (.int w), .sh (.int c), .ol (R.map .int), .sh (.int n), z5, .sh (.int 3), z7] = .ok (.ol (r.map fun x => PyData.int (0 - x))) := fun z5 z7 =>
          lcS_map r PyData.int _ (by
            have : itemsT (TD r) = .ok (r.map .int) := rfl
            generalize TD r = tr at *
            generalize W.map TD = WW at *
            simp [divD_ok, divOk_lit, hll, em, hg, this]) (fun x hx => ⟨_, rfl, by simp [wipeE]⟩) (by omega)
        refine ⟨r.map fun x => 0 - x, by rw [List.length_map, q1], fun x hx => ?_, ?_⟩
        · obtain ⟨y, hy, rfl⟩ := List.mem_map.mp hx
          rw [Int.zero_sub, Int.natAbs_neg]
          exact q2 y hy
        · rw [List.map_map]
          show _ = Rs.ok (Sl.ol (r.map fun x => PyData.int (0 - x)))
          generalize (r.map fun x => PyData.int (0 - x)) = OUT at *
          generalize (R.map PyData.int) = RR at *
          generalize W.map TD = WW at *
          rw [c3] at e6
          simp [f__law_row, fnOf, b__law_row, er, el, e6, nn, lc]
      · refine ⟨R, hl, hb2, ?_⟩
        have n3 : (∃ b : Bool, neD (.list (W.map TD)) (.list []) = .ok (.bool b) ∧ ((n.fmod 5 == 3) && b) = false) := by
          cases W with
          | nil => exact ⟨false, neD_self ⟨by simp [PyData.canLay0, PyData.canLayAll0], by simp [PyData.depth, PyData.depthAll]⟩, Bool.and_false _⟩
          | cons a t => exact ⟨true, (eqD_consN ((dok_LTD (a :: t)).mono (by decide))).2, by rw [Bool.and_true]; exact beq_eq_false_iff_ne.mpr fun z => c3 ⟨z, by simp⟩⟩
        obtain ⟨b, nb, nc⟩ := n3
        generalize (R.map PyData.int) = RR at *
        generalize W.map TD = WW at *
        cases h3 : (n.fmod 5 == 3) with
        | false => simp [f__law_row, fnOf, b__law_row, er, el, e6, n1, n2, h3]
        | true =>
          rw [h3] at nc
          have : b = false := by simpa using nc
          subst this
          simp [f__law_row, fnOf, b__law_row, er, el, e6, n1, n2, h3, nb]
/-! ### a deed: taken out -/
theorem q_liftS {n : Nat} {F : Env → Rs Out} {S ρ' S' : Env} (h : F (S.take n) = .ok (.nx ρ')) (h1 : ρ'.all notHal = true) (h2 : ρ'.length = n) (h3 : ρ' ++ S.drop n = S') : zLift none n F S = .ok (.nx S') := by
  rw [← h3]
  exact q_lift h h1 h2
theorem q_ifI {F : Env → Rs (Bool × Env)} {A B : Env → Rs OutZ} {S S' : Env} {b : Bool} (h : F S = .ok (b, S')) : zIf F A B S = if b = true then A S' else B S' := q_if F A B h
theorem place_same : neD (.list [.str "place"]) (.list [.str "place"]) = .ok (.bool false) := neD_self ⟨by simp [PyData.canLay0, PyData.canLayAll0]; first | done | decide +kernel, by simp [PyData.depth, PyData.depthAll]⟩
theorem nl_same : neD (.list []) (.list []) = .ok (.bool false) := neD_self ⟨by simp [PyData.canLay0, PyData.canLayAll0], by simp [PyData.depth, PyData.depthAll]⟩
theorem nh_no : notHal .no = true := rfl
theorem nh_sh (d : PyData) : notHal (.sh d) = true := rfl
theorem nh_ol (d : List PyData) : notHal (.ol d) = true := rfl
theorem q_op {f : PyData → PyData → Rs PyData} {F : Env → Rs (PyData × Env)} {n : Nat} {F' : Env → Rs PyData} {S S' : Env} {a b d : PyData} (h1 : F S = .ok (a, S')) (h2 : F' (S'.take n) = .ok b) (h3 : f a b = .ok d) : zOp f F none n F' S = .ok (d, S') := by
  unfold zOp
  rw [h1]
  show (F' (S'.take n) >>= fun b => f a b >>= fun d => Rs.ok (d, S')) = _
  rw [h2]
  show (f a b >>= fun d => Rs.ok (d, S')) = _
  rw [h3]
  rfl
theorem q_b {F : Env → Rs (PyData × Env)} {S S' : Env} {b : Bool} (h : F S = .ok (.bool b, S')) : zB F S = .ok (b, S') := by
  unfold zB
  rw [h]
  rfl
theorem q_not {F : Env → Rs (Bool × Env)} {S S' : Env} {b : Bool} (h : F S = .ok (b, S')) : zNot F S = .ok (!b, S') := by
  unfold zNot
  rw [h]
  rfl
theorem q_or0 {F F' : Env → Rs (Bool × Env)} {S S' : Env} (h : F S = .ok (false, S')) : zOr F F' S = F' S' := by
  unfold zOr
  rw [h]
  rfl
theorem q_call {n : Nat} {f : List Sl → Rs (PyData × List Sl)} {Fa : Env → Rs (List Ag)} {S S' : Env} {as : List Ag} {ss ss' : List Sl} {d : PyData} (h1 : Fa S = .ok as) (h2 : sofA S as = .ok ss) (h3 : (ixs as).Nodup) (h4 : f ss = .ok (d, ss')) (h5 : putA S as ss' = S') (h6 : (S'.take n).all notHal = true) : zCall n f Fa S = .ok (d, S') := by
  unfold zCall
  rw [h1]
  show (sofA S as >>= fun ss => if (ixs as).Nodup then f ss >>= fun r => if ((putA S as r.2).take n).all notHal = true then Rs.ok (r.1, putA S as r.2) else .stuck else .stuck) = _
  rw [h2]
  show (if (ixs as).Nodup then f ss >>= fun r => if ((putA S as r.2).take n).all notHal = true then Rs.ok (r.1, putA S as r.2) else .stuck else .stuck) = _
  rw [if_pos h3, h4]
  show (if ((putA S as ss').take n).all notHal = true then Rs.ok (d, putA S as ss') else .stuck) = _
  rw [h5, if_pos h6]
/-- the frame of a deed -/
def dnS (m : Int) (D : List PyData) (w c : Int) (x4 x5 x6 x7 x8 : Sl) (D' : List PyData) : Env := [.no, .ol D, .sh (.int w), .sh (.int c), x4, x5, x6, x7, x8, .hal m D']
theorem done_out (m : Int) (D D1 D' : List PyData) (w c : Int) (d : PyData) {x4 x5 x6 x7 x8 : Sl} (h : b__law_done (dnS m D w c .no .no .no .no .no D) = .ok (.rt d (dnS m D1 w c x4 x5 x6 x7 x8 D'))) : f__law_done [.hal m D, .ol D, .sh (.int w), .sh (.int c)] = .ok (d, [.hal m D', .ol D1, .sh (.int w), .sh (.int c)]) :=
  fnQ_ok (np := 4) (n := 9) (hi := 0) (oj := some 1) (F := b__law_done) (ss := [.hal m D, .ol D, .sh (.int w), .sh (.int c)]) (S := dnS m D1 w c x4 x5 x6 x7 x8 D') rfl (by decide) h
theorem erase_map {α β : Type} (f : α → β) (l : List α) (p : Nat) : (l.map f).eraseIdx p = (l.eraseIdx p).map f := by
  induction l generalizing p with
  | nil => rfl
  | cons a l ih => cases p with
    | zero => rfl
    | succ p => exact congrArg (f a :: ·) (ih p)
theorem done_take (m : Int) (W : List (List Int)) (w c : Int) (hW : W.length ≤ 1000) (hc : c.fmod 3 = 0 ∨ 8 < W.length) :
    ∃ W' : List (List Int), W'.Sublist W ∧ f__law_done [.hal m (W.map TD), .ol (W.map TD), .sh (.int w), .sh (.int c)] = .ok (.bool true, [.hal m (W'.map TD), .ol (W'.map TD), .sh (.int w), .sh (.int c)]) := by
  have hL : (W.map TD).length = W.length := List.length_map _
  have ht0 : ∃ p : Int, (∀ x5 x6 x7 x8 : Sl, (fSet 4 (fV (fOp modD (fOp divD (fVarB 3) (fC (.int 3))) (fOp max2D (fC (.int 1)) (fUn lenD (fVarB 1)))))) [.no, .ol (W.map TD), .sh (.int w), .sh (.int c), .no, x5, x6, x7, x8] = .ok (.nx [.no, .ol (W.map TD), .sh (.int w), .sh (.int c), .sh (.int p), x5, x6, x7, x8])) := by
    have hm : ∃ M : Int, M ≠ 0 ∧ max2D (.int 1) (.int (W.length : Int)) = .ok (.int M) := by
      by_cases h : (W.length : Int) > 1
      · exact ⟨W.length, by omega, by show Rs.ok _ = _; rw [if_pos h]⟩
      · exact ⟨1, by decide, by show Rs.ok _ = _; rw [if_neg h]⟩
    obtain ⟨M, M0, hm⟩ := hm
    refine ⟨(c.fdiv 3).fmod M, fun x5 x6 x7 x8 => ?_⟩
    have e : modD (.int (c.fdiv 3)) (.int M) = .ok (.int ((c.fdiv 3).fmod M)) := modD_ok M0
    generalize W.map TD = D at *
    generalize (c.fdiv 3).fmod M = q at *
    simp [divD_ok, divOk_lit, hL, hm, e]
  obtain ⟨p0, e1⟩ := ht0
  have ht1 : ∃ p : Int, (∀ x5 x6 x7 x8 : Sl, (fIf (fB (fOp eqD (fOp modD (fOp divD (fVarB 3) (fC (.int 1000))) (fC (.int 3))) (fC (.int 1))))
   (fSet 4 (fV (fOp ixD (fSh (fUn lstD (fCons (fUn negD (fC (.int 1))) (fCons (fUn lenD (fVarB 1)) (fCons (fSh (fOp addD (fUn lenD (fVarB 1)) (fOp modD (fVarB 3) (fOp powD (fC (.int 10)) (fC (.int 20)))))) fNil))))) (fOp modD (fOp divD (fVarB 3) (fC (.int 3000))) (fC (.int 3))))))
   fSkip) [.no, .ol (W.map TD), .sh (.int w), .sh (.int c), .sh (.int p0), x5, x6, x7, x8] = .ok (.nx [.no, .ol (W.map TD), .sh (.int w), .sh (.int c), .sh (.int p), x5, x6, x7, x8])) := by
    have e : modD (.int (c.fdiv 1000)) (.int 3) = .ok (.int ((c.fdiv 1000).fmod 3)) := modD_ok (by decide)
    by_cases h : (c.fdiv 1000).fmod 3 = 1
    · rw [h] at e
      have e3 : modD (.int (c.fdiv 3000)) (.int 3) = .ok (.int ((c.fdiv 3000).fmod 3)) := modD_ok (by decide)
      obtain ⟨i0, i1⟩ := fmod_bd (c.fdiv 3000) 3 (by decide)
      have e2 : modD (.int c) (.int 100000000000000000000) = .ok (.int (c.fmod 100000000000000000000)) := modD_ok (by decide)
      generalize (c.fdiv 3000).fmod 3 = i at *
      generalize c.fmod 100000000000000000000 = g at *
      have : i = 0 ∨ i = 1 ∨ i = 2 := by omega
      generalize W.map TD = D at *
      rcases this with rfl | rfl | rfl
      · exact ⟨-1, fun x5 x6 x7 x8 => by simp [divD_ok, divOk_lit, e, hL, e2, e3]⟩
      · exact ⟨W.length, fun x5 x6 x7 x8 => by simp [divD_ok, divOk_lit, e, hL, e2, e3]⟩
      · exact ⟨W.length + g, fun x5 x6 x7 x8 => by simp [divD_ok, divOk_lit, e, hL, e2, e3]⟩
    · have n1 : ((c.fdiv 1000).fmod 3 == 1) = false := beq_eq_false_iff_ne.mpr h
      generalize W.map TD = D at *
      exact ⟨p0, fun x5 x6 x7 x8 => by simp [divD_ok, divOk_lit, e, n1]⟩
  obtain ⟨p, e2⟩ := ht1
  have e0 : (zRd none 9 (fOr (fB (fOp eqD (fOp modD (fVarB 3) (fC (.int 3))) (fC (.int 0)))) (fB (fOp gtD (fUn lenD (fVarB 1)) (fC (.int 8)))))) (dnS m (W.map TD) w c .no .no .no .no .no (W.map TD)) = .ok (true, dnS m (W.map TD) w c .no .no .no .no .no (W.map TD)) := q_rd (by
    have e : modD (.int c) (.int 3) = .ok (.int (c.fmod 3)) := modD_ok (by decide)
    show (fOr (fB (fOp eqD (fOp modD (fVarB 3) (fC (.int 3))) (fC (.int 0)))) (fB (fOp gtD (fUn lenD (fVarB 1)) (fC (.int 8))))) [.no, .ol (W.map TD), .sh (.int w), .sh (.int c), .no, .no, .no, .no, .no] = _
    generalize W.map TD = D at *
    by_cases h : c.fmod 3 = 0
    · rw [h] at e
      simp [e]
    · have n1 : (c.fmod 3 == 0) = false := beq_eq_false_iff_ne.mpr h
      have h8 : 8 < W.length := hc.resolve_left h
      have : (8 : Int) < (W.length : Int) := by omega
      simp [e, n1, hL, this])
  have l1 : zLift none 9 _ (dnS m (W.map TD) w c .no .no .no .no .no (W.map TD)) = .ok (.nx (dnS m (W.map TD) w c (.sh (.int p0)) .no .no .no .no (W.map TD))) := q_liftS (n := 9) (e1 .no .no .no .no) rfl rfl rfl
  have l2 : zLift none 9 _ (dnS m (W.map TD) w c (.sh (.int p0)) .no .no .no .no (W.map TD)) = .ok (.nx (dnS m (W.map TD) w c (.sh (.int p)) .no .no .no .no (W.map TD))) := q_liftS (n := 9) (e2 .no .no .no .no) rfl rfl rfl
  by_cases hp : 0 ≤ p ∧ p < W.length
  · have h0 := hp.1
    have h1 := hp.2
    obtain ⟨j, rfl⟩ : ∃ j : Nat, p = j := ⟨p.toNat, by omega⟩
    have hj : j < W.length := by omega
    refine ⟨W.eraseIdx j, List.eraseIdx_sublist _ _, ?_⟩
    refine done_out m _ _ _ w c _ (x4 := .sh (.int j)) (x5 := .sh (.bool true)) (x6 := .no) (x7 := .no) (x8 := .no) ?_
    have e3 : (fSet 5 (fV (fAndV (fOp leD (fC (.int 0)) (fVarB 4)) (fOp ltD (fVarB 4) (fUn lenD (fVarB 1)))))) [.no, .ol (W.map TD), .sh (.int w), .sh (.int c), .sh (.int (j : Int)), .no, .no, .no, .no] = .ok (.nx [.no, .ol (W.map TD), .sh (.int w), .sh (.int c), .sh (.int (j : Int)), .sh (.bool true), .no, .no, .no]) := by
      generalize W.map TD = D at *
      simp [hL, h0, h1]
    have l3 : zLift none 9 _ (dnS m (W.map TD) w c (.sh (.int j)) .no .no .no .no (W.map TD)) = .ok (.nx (dnS m (W.map TD) w c (.sh (.int j)) (.sh (.bool true)) .no .no .no (W.map TD))) := q_liftS (n := 9) e3 rfl rfl rfl
    have tk := ev_ltook m j (W.map TD) ((W.map TD).eraseIdx j) [] (.inl ⟨ev_take m j (W.map TD) (by rw [hL]; exact hj) (by rw [hL]; exact hW), rfl⟩)
    have ck := q_call (n := 9) (S := dnS m (W.map TD) w c (.sh (.int j)) (.sh (.bool true)) .no .no .no (W.map TD)) (S' := dnS m (W.map TD) w c (.sh (.int j)) (.sh (.bool true)) .no .no .no ((W.map TD).eraseIdx j)) (Fa := zACons (zVar (9 + 0)) (zACons (zDat none 9 (fVarS 4)) zANil)) (as := [.inl 9, .inr (.int j)]) rfl rfl (by show [9].Nodup; decide) tk rfl rfl
    have c2 := q_ifI (A := zRet (zRd none 9 (fC (.bool false)))) (B := zNil) (q_b (q_op (n := 9) ck (f := neD) (F' := fOp ixD (fSh (fUn lstD (fCons (fSh (fUn lstD (fCons (fC (.str "place")) fNil))) (fCons (fSh (fUn lstD fNil)) fNil)))) (fUn int1D (fVarB 5))) (b := .list []) (d := .bool false) (by
      show (fOp ixD (fSh (fUn lstD (fCons (fSh (fUn lstD (fCons (fC (.str "place")) fNil))) (fCons (fSh (fUn lstD fNil)) fNil)))) (fUn int1D (fVarB 5))) [.no, .ol (W.map TD), .sh (.int w), .sh (.int c), .sh (.int j), .sh (.bool true), .no, .no, .no] = _
      generalize W.map TD = D at *
      simp [int1D]) nl_same))
    have e5 : (fIf (fB (fVarS 5)) (fFz 4 (fPopAt 1 (fVarS 4))) fSkip) [.no, .ol (W.map TD), .sh (.int w), .sh (.int c), .sh (.int (j : Int)), .sh (.bool true), .no, .no, .no] = .ok (.nx [.no, .ol ((W.map TD).eraseIdx j), .sh (.int w), .sh (.int c), .sh (.int (j : Int)), .sh (.bool true), .no, .no, .no]) := by
      have hl : (W.map TD).length ≤ lim := by rw [hL]; have : (lim : Nat) = 1000000 := rfl; omega
      have : popAtD (W.map TD) [.int (j : Int)] = .ok ((W.map TD).eraseIdx j) := by
        show (if 0 ≤ (j : Int) ∧ (j : Int) < ((W.map TD).length : Nat) ∧ (W.map TD).length ≤ lim then _ else _) = _
        rw [if_pos ⟨h0, by rw [hL]; exact h1, hl⟩]
        rfl
      generalize (W.map TD).eraseIdx j = D2 at *
      generalize W.map TD = D at *
      simp [this, fz1_eq, fPopAt, fMut]
    have l5 : zLift none 9 _ (dnS m (W.map TD) w c (.sh (.int j)) (.sh (.bool true)) .no .no .no ((W.map TD).eraseIdx j)) = .ok (.nx (dnS m ((W.map TD).eraseIdx j) w c (.sh (.int j)) (.sh (.bool true)) .no .no .no ((W.map TD).eraseIdx j))) := q_liftS (n := 9) e5 rfl rfl rfl
    have l6 : zRet (zRd none 9 (fC (.bool true))) (dnS m ((W.map TD).eraseIdx j) w c (.sh (.int j)) (.sh (.bool true)) .no .no .no ((W.map TD).eraseIdx j)) = .ok (.rt (.bool true) (dnS m ((W.map TD).eraseIdx j) w c (.sh (.int j)) (.sh (.bool true)) .no .no .no ((W.map TD).eraseIdx j))) := q_ret (q_rd rfl)
    have c3 := c2.trans (if_neg (by decide))
    unfold b__law_done
    rw [q_seq, (q_ifI e0).trans (if_pos rfl), q_seq, l1, q_anx, q_seq, l2, q_anx, q_seq, l3, q_anx, q_seq, c3]
    show afterZ (afterZ (.ok (.nx (dnS m (W.map TD) w c (.sh (.int j)) (.sh (.bool true)) .no .no .no ((W.map TD).eraseIdx j)))) _) _ = _
    rw [q_anx, q_seq, l5, q_anx, l6, q_art, erase_map]
  · refine ⟨W, List.Sublist.refl W, ?_⟩
    refine done_out m _ _ _ w c _ (x4 := .sh (.int p)) (x5 := .sh (.bool false)) (x6 := .no) (x7 := .no) (x8 := .no) ?_
    have e3 : (fSet 5 (fV (fAndV (fOp leD (fC (.int 0)) (fVarB 4)) (fOp ltD (fVarB 4) (fUn lenD (fVarB 1)))))) [.no, .ol (W.map TD), .sh (.int w), .sh (.int c), .sh (.int p), .no, .no, .no, .no] = .ok (.nx [.no, .ol (W.map TD), .sh (.int w), .sh (.int c), .sh (.int p), .sh (.bool false), .no, .no, .no]) := by
      generalize W.map TD = D at *
      by_cases h0 : 0 ≤ p
      · have h1 : ¬ (p < (W.length : Int)) := fun h => hp ⟨h0, h⟩
        simp [hL, h0, h1]
      · simp [hL, h0]
    have l3 : zLift none 9 _ (dnS m (W.map TD) w c (.sh (.int p)) .no .no .no .no (W.map TD)) = .ok (.nx (dnS m (W.map TD) w c (.sh (.int p)) (.sh (.bool false)) .no .no .no (W.map TD))) := q_liftS (n := 9) e3 rfl rfl rfl
    have tk := ev_ltook m p (W.map TD) (W.map TD) [.str "place"] (.inr ⟨ev_take_no m p (W.map TD) (by rw [hL]; exact hp), rfl, rfl⟩)
    have ck := q_call (n := 9) (S := dnS m (W.map TD) w c (.sh (.int p)) (.sh (.bool false)) .no .no .no (W.map TD)) (S' := dnS m (W.map TD) w c (.sh (.int p)) (.sh (.bool false)) .no .no .no (W.map TD)) (Fa := zACons (zVar (9 + 0)) (zACons (zDat none 9 (fVarS 4)) zANil)) (as := [.inl 9, .inr (.int p)]) rfl rfl (by show [9].Nodup; decide) tk rfl rfl
    have c2 := q_ifI (A := zRet (zRd none 9 (fC (.bool false)))) (B := zNil) (q_b (q_op (n := 9) ck (f := neD) (F' := fOp ixD (fSh (fUn lstD (fCons (fSh (fUn lstD (fCons (fC (.str "place")) fNil))) (fCons (fSh (fUn lstD fNil)) fNil)))) (fUn int1D (fVarB 5))) (b := .list [.str "place"]) (d := .bool false) (by
      show (fOp ixD (fSh (fUn lstD (fCons (fSh (fUn lstD (fCons (fC (.str "place")) fNil))) (fCons (fSh (fUn lstD fNil)) fNil)))) (fUn int1D (fVarB 5))) [.no, .ol (W.map TD), .sh (.int w), .sh (.int c), .sh (.int p), .sh (.bool false), .no, .no, .no] = _
      generalize W.map TD = D at *
      simp [int1D]) place_same))
    have e5 : (fIf (fB (fVarS 5)) (fFz 4 (fPopAt 1 (fVarS 4))) fSkip) [.no, .ol (W.map TD), .sh (.int w), .sh (.int c), .sh (.int p), .sh (.bool false), .no, .no, .no] = .ok (.nx [.no, .ol (W.map TD), .sh (.int w), .sh (.int c), .sh (.int p), .sh (.bool false), .no, .no, .no]) := by
      generalize W.map TD = D at *
      simp
    have l5 : zLift none 9 _ (dnS m (W.map TD) w c (.sh (.int p)) (.sh (.bool false)) .no .no .no (W.map TD)) = .ok (.nx (dnS m (W.map TD) w c (.sh (.int p)) (.sh (.bool false)) .no .no .no (W.map TD))) := q_liftS (n := 9) e5 rfl rfl rfl
    have l6 : zRet (zRd none 9 (fC (.bool true))) (dnS m (W.map TD) w c (.sh (.int p)) (.sh (.bool false)) .no .no .no (W.map TD)) = .ok (.rt (.bool true) (dnS m (W.map TD) w c (.sh (.int p)) (.sh (.bool false)) .no .no .no (W.map TD))) := q_ret (q_rd rfl)
    have c3 := c2.trans (if_neg (by decide))
    unfold b__law_done
    rw [q_seq, (q_ifI e0).trans (if_pos rfl), q_seq, l1, q_anx, q_seq, l2, q_anx, q_seq, l3, q_anx, q_seq, c3]
    show afterZ (afterZ (.ok (.nx (dnS m (W.map TD) w c (.sh (.int p)) (.sh (.bool false)) .no .no .no (W.map TD)))) _) _ = _
    rw [q_anx, q_seq, l5, q_anx, l6, q_art]
/-! ### a deed: put in -/
theorem lfree_TDs : ∀ W : List (List Int), lfreeAll (W.map TD) = true
  | [] => z_lfA0
  | r :: W => by
    rw [List.map_cons, z_lfA1, lfree_TDs W, Bool.and_true]
    unfold TD
    rw [z_lfT, lfree_ints]
theorem due_dok (j : Int) : DOk 59 (.list [.tuple [.str "wall", .int j]]) := ⟨by simp [PyData.canLay0, PyData.canLayAll0]; first | done | decide +kernel, by simp [PyData.depth, PyData.depthAll]⟩
theorem due_same (j : Int) : neD (.list [.tuple [.str "wall", .int j]]) (.list [.tuple [.str "wall", .int j]]) = .ok (.bool false) := neD_self ((due_dok j).mono (by decide))
theorem nil_same : neD (.list []) (.list []) = .ok (.bool false) :=
  neD_self ⟨by simp [PyData.canLay0, PyData.canLayAll0], by simp [PyData.depth, PyData.depthAll]⟩
theorem put_of (m : Int) (D D1 D' RR due : List PyData) (w c : Int) (x6 : Sl) (hD : D.length ≤ 8) (hc : c.fmod 3 ≠ 0) (hrow : f__law_row [.list D, .int w, .int (c.fdiv 3)] = .ok (.ol RR)) (hf : lfreeAll RR = true) (hx : x6 = .ol RR ∨ x6 = .sh (.list RR))
    (e7 : (fIf (fNot (fB (fUn anyD (fSh (fSl (fVarB 6) fNone (fSome (fUn negD (fC (.int 1)))))))))
  (fSet 7 (fUn lstD (fCons (fUn tupD (fCons (fC (.str "wall")) (fCons (fC (.int 0)) fNil))) fNil)))
  (fFz 6 (fIf (fB (fOp inD (fSh (fCall f__law_plain (fCons (fVarS 6) fNil))) (fVarB 1)))
   (fFz 6 (fSet 7 (fUn lstD (fCons (fUn tupD (fCons (fC (.str "wall")) (fCons (fIdx (fVarB 1) (fSh (fCall f__law_plain (fCons (fVarS 6) fNil)))) fNil))) fNil))))
   fSkip))) [.no, .ol D, .sh (.int w), .sh (.int c), .no, .no, .ol RR, .ol [], .no] = .ok (.nx [.no, .ol D, .sh (.int w), .sh (.int c), .no, .no, x6, .ol due, .no]))
    (hput : f__law_put [.hal m D, .ol RR] = .ok (.list due, [.hal m D', .ol RR])) (hn : neD (.list due) (.list due) = .ok (.bool false)) (hq : neD (.list RR) (.list RR) = .ok (.bool false))
    (e9 : ∃ y6, (fIf (fB (fOp eqD (fVarB 7) (fSh (fUn lstD fNil)))) (fFz 6 (fApp 1 (fSh (fCall f__law_plain (fCons (fVarS 6) fNil))))) fSkip) [.no, .ol D, .sh (.int w), .sh (.int c), .no, .no, x6, .ol due, .ol []] = .ok (.nx [.no, .ol D1, .sh (.int w), .sh (.int c), .no, .no, y6, .ol due, .ol []]) ∧ notHal y6 = true) :
    f__law_done [.hal m D, .ol D, .sh (.int w), .sh (.int c)] = .ok (.bool true, [.hal m D', .ol D1, .sh (.int w), .sh (.int c)]) := by
  obtain ⟨y6, e9, ny⟩ := e9
  refine done_out m _ _ _ w c _ (x4 := .no) (x5 := .no) (x6 := y6) (x7 := .ol due) (x8 := .ol []) ?_
  have e0 : (zRd none 9 (fOr (fB (fOp eqD (fOp modD (fVarB 3) (fC (.int 3))) (fC (.int 0)))) (fB (fOp gtD (fUn lenD (fVarB 1)) (fC (.int 8)))))) (dnS m D w c .no .no .no .no .no D) = .ok (false, dnS m D w c .no .no .no .no .no D) := q_rd (by
    have e : modD (.int c) (.int 3) = .ok (.int (c.fmod 3)) := modD_ok (by decide)
    show (fOr (fB (fOp eqD (fOp modD (fVarB 3) (fC (.int 3))) (fC (.int 0)))) (fB (fOp gtD (fUn lenD (fVarB 1)) (fC (.int 8))))) [.no, .ol D, .sh (.int w), .sh (.int c), .no, .no, .no, .no, .no] = _
    have n1 : (c.fmod 3 == 0) = false := beq_eq_false_iff_ne.mpr hc
    have n2 : ¬ (8 : Int) < (D.length : Int) := by omega
    simp [e, n1, n2])
  have e1 : (fSet 6 (fLend 1 (fCall f__law_row (fCons (fVarS 1) (fCons (fVarS 2) (fCons (fOp divD (fVarB 3) (fC (.int 3))) fNil)))))) [.no, .ol D, .sh (.int w), .sh (.int c), .no, .no, .no, .no, .no] = .ok (.nx [.no, .ol D, .sh (.int w), .sh (.int c), .no, .no, .ol RR, .no, .no]) := by
    simp [divD_ok, divOk_lit, fLend, fz1_eq, hrow, lendCk, slFree, hf]
  have l1 : zLift none 9 _ (dnS m D w c .no .no .no .no .no D) = .ok (.nx (dnS m D w c .no .no (.ol RR) .no .no D)) := q_liftS (n := 9) e1 rfl rfl rfl
  have l2 : zLift none 9 (fSet 7 (fUn lstD fNil)) (dnS m D w c .no .no (.ol RR) .no .no D) = .ok (.nx (dnS m D w c .no .no (.ol RR) (.ol []) .no D)) := q_liftS (n := 9) (ρ' := [.no, .ol D, .sh (.int w), .sh (.int c), .no, .no, .ol RR, .ol [], .no]) rfl rfl rfl rfl
  have n6 : notHal x6 = true := by rcases hx with rfl | rfl <;> rfl
  have l3 : zLift none 9 _ (dnS m D w c .no .no (.ol RR) (.ol []) .no D) = .ok (.nx (dnS m D w c .no .no x6 (.ol due) .no D)) := q_liftS (n := 9) e7 (by simp [nh_no, nh_sh, nh_ol, n6]) rfl rfl
  have e8 : (fSet 8 (fUn listD (fVarB 6))) [.no, .ol D, .sh (.int w), .sh (.int c), .no, .no, x6, .ol due, .no] = .ok (.nx [.no, .ol D, .sh (.int w), .sh (.int c), .no, .no, x6, .ol due, .ol RR]) := by
    rcases hx with rfl | rfl <;> rfl
  have l4 : zLift none 9 _ (dnS m D w c .no .no x6 (.ol due) .no D) = .ok (.nx (dnS m D w c .no .no x6 (.ol due) (.ol RR) D)) := q_liftS (n := 9) e8 (by simp [nh_no, nh_sh, nh_ol, n6]) rfl rfl
  have ck := q_call (n := 9) (S := dnS m D w c .no .no x6 (.ol due) (.ol RR) D) (S' := dnS m D w c .no .no x6 (.ol due) (.ol RR) D') (Fa := zACons (zVar (9 + 0)) (zACons (zOwn 8) zANil)) (as := [.inl 9, .inl 8]) rfl rfl (by decide) hput rfl (by simp [dnS, nh_no, nh_sh, nh_ol, n6])
  have c1 : (zB (zOp neD (zCall 9 f__law_put (zACons (zVar (9 + 0)) (zACons (zOwn 8) zANil))) none 9 (fVarB 7))) (dnS m D w c .no .no x6 (.ol due) (.ol RR) D) = .ok (false, dnS m D w c .no .no x6 (.ol due) (.ol RR) D') := q_b (q_op (n := 9) ck (b := .list due) rfl hn)
  have c2 : (zRd none 9 (fB (fOp neD (fVarB 8) (fVarB 6)))) (dnS m D w c .no .no x6 (.ol due) (.ol RR) D') = .ok (false, dnS m D w c .no .no x6 (.ol due) (.ol RR) D') := q_rd (by
    show (fB (fOp neD (fVarB 8) (fVarB 6))) [.no, .ol D, .sh (.int w), .sh (.int c), .no, .no, x6, .ol due, .ol RR] = _
    rcases hx with rfl | rfl <;> simp [hq])
  have c3 : (zIf (zOr (zB (zOp neD (zCall 9 f__law_put (zACons (zVar (9 + 0)) (zACons (zOwn 8) zANil))) none 9 (fVarB 7))) (zRd none 9 (fB (fOp neD (fVarB 8) (fVarB 6))))) (zRet (zRd none 9 (fC (.bool false)))) zNil) (dnS m D w c .no .no x6 (.ol due) (.ol RR) D) = .ok (.nx (dnS m D w c .no .no x6 (.ol due) (.ol RR) D')) :=
    (q_ifI ((q_or0 c1).trans c2)).trans (if_neg (by decide))
  have l5 : zLift none 9 (fClr 8) (dnS m D w c .no .no x6 (.ol due) (.ol RR) D') = .ok (.nx (dnS m D w c .no .no x6 (.ol due) (.ol []) D')) := q_liftS (n := 9) (ρ' := [.no, .ol D, .sh (.int w), .sh (.int c), .no, .no, x6, .ol due, .ol []]) rfl (by simp [nh_no, nh_sh, nh_ol, n6]) rfl rfl
  have l6 : zLift none 9 _ (dnS m D w c .no .no x6 (.ol due) (.ol []) D') = .ok (.nx (dnS m D1 w c .no .no y6 (.ol due) (.ol []) D')) := q_liftS (n := 9) e9 (by simp [nh_no, nh_sh, nh_ol, ny]) rfl rfl
  have l7 : zRet (zRd none 9 (fC (.bool true))) (dnS m D1 w c .no .no y6 (.ol due) (.ol []) D') = .ok (.rt (.bool true) (dnS m D1 w c .no .no y6 (.ol due) (.ol []) D')) := q_ret (q_rd rfl)
  unfold b__law_done
  rw [q_seq, (q_ifI e0).trans (if_neg (by decide))]
  show afterZ (.ok (.nx (dnS m D w c .no .no .no .no .no D))) _ = _
  rw [q_anx, q_seq, l1, q_anx, q_seq, l2, q_anx, q_seq, l3, q_anx, q_seq, l4, q_anx, q_seq, c3, q_anx, q_seq, l5, q_anx, q_seq, l6, q_anx, l7]
theorem done_put (m : Int) (W : List (List Int)) (w : Nat) (c : Int) (hw : w ≤ 4) (hW : W.length ≤ 8) (hc : c.fmod 3 ≠ 0) (hR : ∀ r ∈ W, r.length = w + 1 ∧ ∀ x ∈ r, x.natAbs < 2 ^ 9000) :
    ∃ W' : List (List Int), (W' = W ∨ ∃ R : List Int, W' = W ++ [plainL R] ∧ R.length = w + 1 ∧ (∀ x ∈ R, x.natAbs < 2 ^ 9000) ∧ (∃ x ∈ R, x ≠ 0)) ∧ f__law_done [.hal m (W.map TD), .ol (W.map TD), .sh (.int w), .sh (.int c)] = .ok (.bool true, [.hal m (W'.map TD), .ol (W'.map TD), .sh (.int w), .sh (.int c)]) := by
  have hD : (W.map TD).length ≤ 8 := by rw [List.length_map]; exact hW
  obtain ⟨R, hl, hb, hrow⟩ := ev_lrow W w (c.fdiv 3) hw (by omega) hR
  have hR0 : R ≠ [] := fun z => by rw [z] at hl; cases hl
  obtain ⟨ys, z, rfl⟩ : ∃ ys z, R = ys ++ [z] := ⟨R.dropLast, R.getLast hR0, (List.dropLast_concat_getLast hR0).symm⟩
  have hys : ys.length ≤ 1000 := by rw [List.length_append, List.length_singleton] at hl; omega
  have hall : (ys ++ [z]).length ≤ 1000 := by omega
  have ecut : cutP ((ys ++ [z]).map PyData.int) none (some (-1)) = ys.map .int := by rw [cutP_init, List.map_append, List.map_singleton, List.dropLast_concat]
  have ea : anyD (.list (ys.map .int)) = .ok (.bool (ys.any fun i => i != 0)) := anyD_list ys
  have hfr := lfree_ints (ys ++ [z])
  have hq : neD (.list ((ys ++ [z]).map .int)) (.list ((ys ++ [z]).map .int)) = .ok (.bool false) := neD_self ((dok_list (n := 0) fun d hd => by
    obtain ⟨i, _, rfl⟩ := List.mem_map.mp hd
    exact dok_int i).mono (by decide))
  by_cases hn : ∃ y ∈ ys, y ≠ 0
  · have hany : (ys.any fun i => i != 0) = true := by
      obtain ⟨y, hy, h0⟩ := hn
      exact List.any_eq_true.mpr ⟨y, hy, by simpa using h0⟩
    rw [hany] at ea
    have hnz : ∃ x ∈ ys ++ [z], x ≠ 0 := by
      obtain ⟨y, hy, h0⟩ := hn
      exact ⟨y, List.mem_append_left _ hy, h0⟩
    have hp := ev_lplainL (ys ++ [z]) hnz hb hall
    have hin := inD_TD W (plainL (ys ++ [z]))
    cases hh : hasTD W (plainL (ys ++ [z])) with
    | true =>
      rw [hh] at hin
      obtain ⟨j, hj⟩ := has_idx hh
      have hpo := ev_put_old m W ys z hn hb hys hh hj
      refine ⟨W, .inl rfl, put_of m _ _ _ ((ys ++ [z]).map .int) [.tuple [.str "wall", .int j]] w c (.sh (.list ((ys ++ [z]).map .int))) hD hc hrow hfr (.inr rfl) ?_ (ev_lput m _ _ _ _ (.inr ⟨j, hpo, rfl, rfl⟩)) (due_same j) hq ⟨.sh (.list ((ys ++ [z]).map .int)), ?_, rfl⟩⟩
      · clear hrow hq hfr hpo
        generalize TD (plainL (ys ++ [z])) = t at *
        generalize (ys ++ [z]).map PyData.int = RR at *
        generalize ys.map PyData.int = YY at *
        generalize W.map TD = D at *
        simp [ecut, ea, hp, hin, fIdx, hj, fz1_eq]
      · have : eqD (.list [.tuple [.str "wall", .int j]]) (.list []) = .ok (.bool false) := (eqD_consN (due_dok _)).1
        generalize (ys ++ [z]).map PyData.int = RR at *
        generalize W.map TD = D at *
        simp [this]
    | false =>
      rw [hh] at hin
      have hpo := ev_put m W ys z hn hb hys hh (by omega)
      refine ⟨W ++ [plainL (ys ++ [z])], .inr ⟨_, rfl, hl, hb, hnz⟩, put_of m _ _ _ ((ys ++ [z]).map .int) [] w c (.sh (.list ((ys ++ [z]).map .int))) hD hc hrow hfr (.inr rfl) ?_ (ev_lput m _ _ _ _ (.inl ⟨hpo, lfree_TDs _, rfl⟩)) nil_same hq ⟨.sh (.list ((ys ++ [z]).map .int)), ?_, rfl⟩⟩
      · clear hrow hq hfr hpo
        generalize TD (plainL (ys ++ [z])) = t at *
        generalize (ys ++ [z]).map PyData.int = RR at *
        generalize ys.map PyData.int = YY at *
        generalize W.map TD = D at *
        simp [ecut, ea, hp, hin, fz1_eq]
      · have hap : appD (W.map TD) [TD (plainL (ys ++ [z]))] = .ok (W.map TD ++ [TD (plainL (ys ++ [z]))]) := appD_ok (by have : (lim : Nat) = 1000000 := rfl; omega)
        have he : eqD (.list []) (.list []) = .ok (.bool true) := eqD_self ⟨by simp [PyData.canLay0, PyData.canLayAll0], by simp [PyData.depth, PyData.depthAll]⟩
        have hm : (W ++ [plainL (ys ++ [z])]).map TD = W.map TD ++ [TD (plainL (ys ++ [z]))] := by rw [List.map_append, List.map_singleton]
        rw [hm]
        clear hrow hq hfr hpo hin
        generalize TD (plainL (ys ++ [z])) = t at *
        generalize (ys ++ [z]).map PyData.int = RR at *
        generalize W.map TD = D at *
        simp [he, hp, hap, fz1_eq]
  · have hno : ∀ y ∈ ys, y = 0 := fun y hy => Classical.byContradiction fun h => hn ⟨y, hy, h⟩
    have hany : (ys.any fun i => i != 0) = false := List.any_eq_false.mpr fun y hy => by rw [hno y hy]; decide
    rw [hany] at ea
    have hpo := ev_put_no m (W.map TD) ys z hno
    refine ⟨W, .inl rfl, put_of m _ _ _ ((ys ++ [z]).map .int) [.tuple [.str "wall", .int 0]] w c (.ol ((ys ++ [z]).map .int)) hD hc hrow hfr (.inl rfl) ?_ (ev_lput m _ _ _ _ (.inr ⟨0, hpo, rfl, rfl⟩)) (due_same 0) hq ⟨.ol ((ys ++ [z]).map .int), ?_, rfl⟩⟩
    · clear hrow hq hfr hpo
      generalize (ys ++ [z]).map PyData.int = RR at *
      generalize ys.map PyData.int = YY at *
      generalize W.map TD = D at *
      simp [ecut, ea]
    · have : eqD (.list [.tuple [.str "wall", .int 0]]) (.list []) = .ok (.bool false) := (eqD_consN (due_dok _)).1
      generalize (ys ++ [z]).map PyData.int = RR at *
      generalize W.map TD = D at *
      simp [this]
/-! ### the law's loop -/
theorem forZ_inv {n : Nat} {T : Tgt} {B : Env → Rs OutZ} (I : Env → Prop) : ∀ (ds : List PyData) (S : Env), I S → (∀ d ∈ ds, ∀ S, I S → ∃ ρ, T d (S.take n) = some ρ ∧ ρ.all notHal = true ∧ ρ.length = n ∧ ∃ S', B (ρ ++ S.drop n) = .ok (.nx S') ∧ I S') → ∃ S', forZ n T B ds S = .ok (.nx S') ∧ I S'
  | [], S, h, _ => ⟨S, rfl, h⟩
  | d :: ds, S, h, st => by
    obtain ⟨ρ, e, a, l, S1, b, i⟩ := st d (List.mem_cons_self ..) S h
    obtain ⟨S2, e2, i2⟩ := forZ_inv I ds S1 i fun d hd => st d (List.mem_cons_of_mem _ hd)
    refine ⟨S2, ?_, i2⟩
    unfold forZ
    rw [e]
    show (if ρ.all notHal = true ∧ ρ.length = n then afterZ (B (ρ ++ S.drop n)) (forZ n T B ds) else .stuck) = _
    rw [if_pos ⟨a, l⟩, b, q_anx, e2]
theorem q_callR {f : List Sl → Rs Sl} {Fa : Env → Rs (List Ag)} {S : Env} {as : List Ag} {ss : List Sl} {b : Bool} (h1 : Fa S = .ok as) (h2 : sofA S as = .ok ss) (h3 : (ixs as).Nodup ∧ (ss.map shw).all (fun s => !s.own) = true) (h4 : f (ss.map shw) = .ok (.sh (.bool b))) : zCallR f Fa S = .ok (b, S) := by
  unfold zCallR
  rw [h1]
  show (sofA S as >>= fun ss => if (ixs as).Nodup ∧ (ss.map shw).all (fun s => !s.own) = true then f (ss.map shw) >>= fun r => slBool r >>= fun b => Rs.ok (b, S) else .stuck) = _
  rw [h2]
  show (if (ixs as).Nodup ∧ (ss.map shw).all (fun s => !s.own) = true then f (ss.map shw) >>= fun r => slBool r >>= fun b => Rs.ok (b, S) else .stuck) = _
  rw [if_pos h3, h4]
  rfl
structure HI (w : Nat) (W : List (List Int)) : Prop where
  hw : w ≤ 4
  len : W.length ≤ 9
  rows : ∀ r ∈ W, r.length = w + 1 ∧ ∀ x ∈ r, x.natAbs < 2 ^ 9000
theorem HI.done {w : Nat} {W : List (List Int)} (h : HI w W) (c : Int) : ∃ W', HI w W' ∧ f__law_done [.hal w (W.map TD), .ol (W.map TD), .sh (.int w), .sh (.int c)] = .ok (.bool true, [.hal w (W'.map TD), .ol (W'.map TD), .sh (.int w), .sh (.int c)]) := by
  have hl := h.len
  by_cases hc : c.fmod 3 = 0 ∨ 8 < W.length
  · obtain ⟨W', s, e⟩ := done_take w W w c (by omega) hc
    exact ⟨W', ⟨h.hw, Nat.le_trans s.length_le hl, fun r hr => h.rows r (s.subset hr)⟩, e⟩
  · obtain ⟨W', s, e⟩ := done_put w W w c h.hw (by omega) (fun z => hc (.inl z)) h.rows
    refine ⟨W', ?_, e⟩
    rcases s with rfl | ⟨R, rfl, q1, q2, q3⟩
    · exact h
    · refine ⟨h.hw, by rw [List.length_append, List.length_singleton]; omega, fun r hr => ?_⟩
      rcases List.mem_append.mp hr with hr | hr
      · exact h.rows r hr
      · rw [List.mem_singleton.mp hr]
        refine ⟨by rw [plainL_len, q1], fun x hx => ?_⟩
        unfold plainL at hx
        obtain ⟨y, hy, rfl⟩ := List.mem_map.mp hx
        exact Nat.lt_of_le_of_lt (plain_le q3 hy) (q2 y hy)
theorem HI.shown {w : Nat} {W : List (List Int)} (h : HI w W) : f__law_shown [.hal w (W.map TD), .sh (.list (W.map TD))] = .ok (.sh (.bool true)) :=
  ev_shown w W (by have := h.len; omega) fun r hr => by
    have := (h.rows r hr).1
    have := h.hw
    have : (lim : Nat) = 1000000 := rfl
    omega
/-- the law's slots -/
def lwS (sc : PyData) (w0 w1 : Nat) (x4 x5 x6 x7 : Sl) (D0 D1 : List PyData) : Env := [.sh sc, .ol [.int w0, .int w1], .no, .no, x4, x5, x6, x7, .hal w0 D0, .hal w1 D1, .ol D0, .ol D1]
theorem shown0 {sc : PyData} {w0 w1 : Nat} {x4 x5 x6 x7 : Sl} {W0 W1 : List (List Int)} (h : HI w0 W0) : zCallR f__law_shown (zACons (zSub 0 8 (fC (.int 0))) (zACons (zSub 2 8 (fC (.int 0))) zANil)) (lwS sc w0 w1 x4 x5 x6 x7 (W0.map TD) (W1.map TD)) = .ok (true, lwS sc w0 w1 x4 x5 x6 x7 (W0.map TD) (W1.map TD)) :=
  q_callR (as := [.inl 8, .inl 10]) (ss := [.hal w0 (W0.map TD), .ol (W0.map TD)]) rfl rfl ⟨by decide, rfl⟩ h.shown
theorem shown1 {sc : PyData} {w0 w1 : Nat} {x4 x5 x6 x7 : Sl} {W0 W1 : List (List Int)} (h : HI w1 W1) : zCallR f__law_shown (zACons (zSub 0 8 (fC (.int 1))) (zACons (zSub 2 8 (fC (.int 1))) zANil)) (lwS sc w0 w1 x4 x5 x6 x7 (W0.map TD) (W1.map TD)) = .ok (true, lwS sc w0 w1 x4 x5 x6 x7 (W0.map TD) (W1.map TD)) :=
  q_callR (as := [.inl 9, .inl 11]) (ss := [.hal w1 (W1.map TD), .ol (W1.map TD)]) rfl rfl ⟨by decide, rfl⟩ h.shown
theorem turn_ok {sc : PyData} {w0 w1 : Nat} {x6 x7 : Sl} (n6 : notHal x6 = true) (n7 : notHal x7 = true) {W0 W1 : List (List Int)} (h0 : HI w0 W0) (h1 : HI w1 W1) (i : Nat) (hi : i < 1000) (c : Int) : ∃ y6 y7 W0' W1', HI w0 W0' ∧ HI w1 W1' ∧ notHal y6 = true ∧ notHal y7 = true ∧ p1_law (lwS sc w0 w1 (.sh (.int i)) (.sh (.int c)) x6 x7 (W0.map TD) (W1.map TD)) = .ok (.nx (lwS sc w0 w1 (.sh (.int i)) (.sh (.int c)) y6 y7 (W0'.map TD) (W1'.map TD))) := by
  obtain ⟨a0, a1⟩ := fmod_bd c 1000000000000000000 (by decide)
  have e : modD (.int c) (.int 1000000000000000000) = .ok (.int (c.fmod 1000000000000000000)) := modD_ok (by decide)
  have em1 : mulD (.int 48271) (.int ((i : Int) + 1)) = .ok (.int (48271 * ((i : Int) + 1))) := mulD_ok (mulOk_left (by decide))
  have e6 : ∀ y6 y7, (fSet 6 (fOp addD (fOp modD (fVarB 5) (fOp powD (fC (.int 10)) (fC (.int 18)))) (fOp mulD (fC (.int 48271)) (fSh (fOp addD (fVarB 4) (fC (.int 1))))))) [.sh sc, .ol [.int w0, .int w1], .no, .no, .sh (.int i), .sh (.int c), y6, y7] = .ok (.nx [.sh sc, .ol [.int w0, .int w1], .no, .no, .sh (.int i), .sh (.int c), .sh (.int (c.fmod 1000000000000000000 + 48271 * ((i : Int) + 1))), y7]) := fun y6 y7 => by
    simp [e, em1]
  have hb : (c.fmod 1000000000000000000 + 48271 * ((i : Int) + 1)).natAbs < 2 ^ 64 := by
    have : (2 : Nat) ^ 64 = 18446744073709551616 := rfl
    omega
  generalize c.fmod 1000000000000000000 + 48271 * ((i : Int) + 1) = N at *
  have em2 : mulD (.int N) (.int N) = .ok (.int (N * N)) := mulD_ok (mulOk_left hb)
  have e3 : modD (.int (N * N)) (.int 2147483629) = .ok (.int ((N * N).fmod 2147483629)) := modD_ok (by decide)
  have e4 : modD (.int ((N * N).fmod 2147483629)) (.int 2) = .ok (.int (((N * N).fmod 2147483629).fmod 2)) := modD_ok (by decide)
  obtain ⟨b0, b1⟩ := fmod_bd ((N * N).fmod 2147483629) 2 (by decide)
  have e7 : ∀ y7, (fSet 7 (fV (fOp modD (fOp modD (fOp mulD (fVarB 6) (fVarB 6)) (fC (.int 2147483629))) (fC (.int 2))))) [.sh sc, .ol [.int w0, .int w1], .no, .no, .sh (.int i), .sh (.int c), .sh (.int N), y7] = .ok (.nx [.sh sc, .ol [.int w0, .int w1], .no, .no, .sh (.int i), .sh (.int c), .sh (.int N), .sh (.int (((N * N).fmod 2147483629).fmod 2))]) := fun y7 => by
    simp [em2, e3, e4]
  generalize ((N * N).fmod 2147483629).fmod 2 = b at *
  have l6 : zLift none 8 _ (lwS sc w0 w1 (.sh (.int i)) (.sh (.int c)) x6 x7 (W0.map TD) (W1.map TD)) = .ok (.nx (lwS sc w0 w1 (.sh (.int i)) (.sh (.int c)) (.sh (.int N)) x7 (W0.map TD) (W1.map TD))) := q_liftS (n := 8) (ρ' := [.sh sc, .ol [.int w0, .int w1], .no, .no, .sh (.int i), .sh (.int c), .sh (.int N), x7]) (e6 x6 x7) (by simp [nh_no, nh_sh, nh_ol, n7]) rfl rfl
  have l7 : zLift none 8 _ (lwS sc w0 w1 (.sh (.int i)) (.sh (.int c)) (.sh (.int N)) x7 (W0.map TD) (W1.map TD)) = .ok (.nx (lwS sc w0 w1 (.sh (.int i)) (.sh (.int c)) (.sh (.int N)) (.sh (.int b)) (W0.map TD) (W1.map TD))) := q_liftS (n := 8) (ρ' := [.sh sc, .ol [.int w0, .int w1], .no, .no, .sh (.int i), .sh (.int c), .sh (.int N), .sh (.int b)]) (e7 x7) rfl rfl rfl
  have fin : ∀ (W0 W1 : List (List Int)), HI w0 W0 → HI w1 W1 → (zIf (zOr (zNot (zCallR f__law_shown (zACons (zSub 0 8 (fC (.int 0))) (zACons (zSub 2 8 (fC (.int 0))) zANil)))) (zNot (zCallR f__law_shown (zACons (zSub 0 8 (fC (.int 1))) (zACons (zSub 2 8 (fC (.int 1))) zANil)))))
   (zRet (zRd none 8 (fC (.bool false))))
   zNil) (lwS sc w0 w1 (.sh (.int i)) (.sh (.int c)) (.sh (.int N)) (.sh (.int b)) (W0.map TD) (W1.map TD)) = .ok (.nx (lwS sc w0 w1 (.sh (.int i)) (.sh (.int c)) (.sh (.int N)) (.sh (.int b)) (W0.map TD) (W1.map TD))) := fun W0 W1 h0 h1 =>
    (q_ifI ((q_or0 (q_not (shown0 h0))).trans (q_not (shown1 h1)))).trans (if_neg (by decide))
  have key : ∃ W0' W1', HI w0 W0' ∧ HI w1 W1' ∧ zCall 8 f__law_done (zACons (zSub 0 8 (fVarB 7)) (zACons (zSub 2 8 (fVarB 7)) (zACons (zDat none 8 (fOp ixD (fVarB 1) (fVarB 7))) (zACons (zDat none 8 (fVarS 5)) zANil)))) (lwS sc w0 w1 (.sh (.int i)) (.sh (.int c)) (.sh (.int N)) (.sh (.int b)) (W0.map TD) (W1.map TD)) = .ok (.bool true, lwS sc w0 w1 (.sh (.int i)) (.sh (.int c)) (.sh (.int N)) (.sh (.int b)) (W0'.map TD) (W1'.map TD)) := by
    have : b = 0 ∨ b = 1 := by omega
    rcases this with rfl | rfl
    · obtain ⟨W', hi, hd⟩ := h0.done c
      exact ⟨W', W1, hi, h1, q_call (as := [.inl 8, .inl 10, .inr (.int w0), .inr (.int c)]) (by rfl) rfl (by show [8, 10].Nodup; decide) hd (by rfl) (by rfl)⟩
    · obtain ⟨W', hi, hd⟩ := h1.done c
      exact ⟨W0, W', h0, hi, q_call (as := [.inl 9, .inl 11, .inr (.int w1), .inr (.int c)]) (by rfl) rfl (by show [9, 11].Nodup; decide) hd (by rfl) (by rfl)⟩
  obtain ⟨W0', W1', g0, g1, ck⟩ := key
  have c1 : (zIf (zNot (zB (zCall 8 f__law_done (zACons (zSub 0 8 (fVarB 7)) (zACons (zSub 2 8 (fVarB 7)) (zACons (zDat none 8 (fOp ixD (fVarB 1) (fVarB 7))) (zACons (zDat none 8 (fVarS 5)) zANil)))))))
   (zRet (zRd none 8 (fC (.bool false))))
   zNil) (lwS sc w0 w1 (.sh (.int i)) (.sh (.int c)) (.sh (.int N)) (.sh (.int b)) (W0.map TD) (W1.map TD)) = .ok (.nx (lwS sc w0 w1 (.sh (.int i)) (.sh (.int c)) (.sh (.int N)) (.sh (.int b)) (W0'.map TD) (W1'.map TD))) := (q_ifI (q_not (q_b ck))).trans (if_neg (by decide))
  refine ⟨.sh (.int N), .sh (.int b), W0', W1', g0, g1, rfl, rfl, ?_⟩
  unfold p1_law
  rw [q_seq, l6, q_anx, q_seq, l7, q_anx, q_seq, c1, q_anx, fin _ _ g0 g1]
theorem cut_go (l : List PyData) : cutP l (some 2) (some 32) = (l.drop 2).take 30 := cutP_mid l 2 32
theorem law_true (ns : List Int) (h : ns.length ≤ 63) : f_law [.list (ns.map .int)] = .ok (.sh (.bool true)) := by
  have c0 : f__law_cell_at [.list (ns.map .int), .int 0] = _ := ev_lcell ns 0
  have c1 : f__law_cell_at [.list (ns.map .int), .int 1] = _ := ev_lcell ns 1
  obtain ⟨a0, a1⟩ := fmod_bd (ns.getD 0 0) 5 (by decide)
  obtain ⟨b0, b1⟩ := fmod_bd (ns.getD 1 0) 5 (by decide)
  have m0 : modD (.int (ns.getD 0 0)) (.int 5) = .ok (.int ((ns.getD 0 0).fmod 5)) := modD_ok (by decide)
  have m1 : modD (.int (ns.getD 1 0)) (.int 5) = .ok (.int ((ns.getD 1 0).fmod 5)) := modD_ok (by decide)
  have hcut : cutP (ns.map PyData.int) (some 2) (some 32) = ((ns.drop 2).take 30).map .int := by rw [cut_go, List.map_take, List.map_drop]
  obtain ⟨w0, e0, l0⟩ : ∃ w : Nat, (ns.getD 0 0).fmod 5 = w ∧ w ≤ 4 := ⟨((ns.getD 0 0).fmod 5).toNat, by omega, by omega⟩
  obtain ⟨w1, e1, l1⟩ : ∃ w : Nat, (ns.getD 1 0).fmod 5 = w ∧ w ≤ 4 := ⟨((ns.getD 1 0).fmod 5).toNat, by omega, by omega⟩
  rw [e0] at m0
  rw [e1] at m1
  have hlen : ((ns.drop 2).take 30).length ≤ 30 := by rw [List.length_take]; omega
  generalize (ns.drop 2).take 30 = cs at *
  obtain ⟨S', el, x4, x5, x6, x7, W0, W1, n4, n5, n6, n7, h0, h1, rfl⟩ := forZ_inv (n := 8) (T := tgT 2 (tgCons (tgN 4) (tgCons (tgN 5) tgNil))) (B := p1_law)
    (fun S => ∃ x4 x5 x6 x7 W0 W1, notHal x4 = true ∧ notHal x5 = true ∧ notHal x6 = true ∧ notHal x7 = true ∧ HI w0 W0 ∧ HI w1 W1 ∧ S = lwS (.list (ns.map .int)) w0 w1 x4 x5 x6 x7 (W0.map TD) (W1.map TD))
    (enumL (cs.map .int)) (lwS (.list (ns.map .int)) w0 w1 .no .no .no .no [] []) ⟨.no, .no, .no, .no, [], [], rfl, rfl, rfl, rfl, ⟨l0, Nat.zero_le _, fun r hr => by cases hr⟩, ⟨l1, Nat.zero_le _, fun r hr => by cases hr⟩, rfl⟩ (fun d hd S hS => by
      obtain ⟨x4, x5, x6, x7, W0, W1, n4, n5, n6, n7, h0, h1, rfl⟩ := hS
      obtain ⟨i, hi⟩ := List.getElem?_of_mem hd
      obtain ⟨a, ha, rfl⟩ := enumL_get hi
      rw [List.getElem?_map] at ha
      obtain ⟨c, hc, rfl⟩ := Option.map_eq_some_iff.mp ha
      have il : i < cs.length := (List.getElem?_eq_some_iff.mp hc).1
      obtain ⟨y6, y7, W0', W1', g0, g1, m6, m7, e⟩ := turn_ok (sc := .list (ns.map .int)) n6 n7 h0 h1 i (by omega) c
      exact ⟨[.sh (.list (ns.map .int)), .ol [.int w0, .int w1], .no, .no, .sh (.int i), .sh (.int c), x6, x7], rfl, by simp [nh_no, nh_sh, nh_ol, n6, n7], rfl, _, e, _, _, y6, y7, W0', W1', rfl, rfl, m6, m7, g0, g1, rfl⟩)
  have ez : z_law (lwS (.list (ns.map .int)) w0 w1 .no .no .no .no [] []) = .ok (.rt (.bool true) (lwS (.list (ns.map .int)) w0 w1 x4 x5 x6 x7 (W0.map TD) (W1.map TD))) := by
    have ef : (zForA 8 (fIt enumD (fCons (fSh (fSl (fVarB 0) (fSome (fC (.int 2))) (fSome (fC (.int 32))))) fNil)) (tgT 2 (tgCons (tgN 4) (tgCons (tgN 5) tgNil))) p1_law) (lwS (.list (ns.map .int)) w0 w1 .no .no .no .no [] []) = .ok (.nx (lwS (.list (ns.map .int)) w0 w1 x4 x5 x6 x7 (W0.map TD) (W1.map TD))) := by
      have ei : (fIt enumD (fCons (fSh (fSl (fVarB 0) (fSome (fC (.int 2))) (fSome (fC (.int 32))))) fNil)) [.sh (.list (ns.map .int)), .ol [.int w0, .int w1], .no, .no, .no, .no, .no, .no] = .ok (enumL (cs.map .int)) := by
        generalize ns.map PyData.int = D at *
        simp [hcut, enumD]
      unfold zForA
      rw [if_pos (by rfl)]
      show ((fIt enumD (fCons (fSh (fSl (fVarB 0) (fSome (fC (.int 2))) (fSome (fC (.int 32))))) fNil)) [.sh (.list (ns.map .int)), .ol [.int w0, .int w1], .no, .no, .no, .no, .no, .no] >>= fun ds => forZ 8 _ _ ds _) = _
      rw [ei]
      exact el
    unfold z_law
    rw [q_seq, ef, q_anx]
    refine q_ret ?_
    show (zCallR f__law_shown _ _ >>= fun r => Rs.ok (PyData.bool r.1, r.2)) = _
    rw [shown0 h0]
    rfl
  have hz : zLaw 8 2 3 (fOp ixD (fVarB 1) (fC (.int 0))) (fOp ixD (fVarB 1) (fC (.int 1))) z_law [.sh (.list (ns.map .int)), .ol [.int w0, .int w1], .no, .no, .no, .no, .no, .no] = .ok (.rt (.sh (.bool true))) := by
    have : zLaw 8 2 3 (fOp ixD (fVarB 1) (fC (.int 0))) (fOp ixD (fVarB 1) (fC (.int 1))) z_law [.sh (.list (ns.map .int)), .ol [.int w0, .int w1], .no, .no, .no, .no, .no, .no] = lawEnd (z_law (lwS (.list (ns.map .int)) w0 w1 .no .no .no .no [] [])) := rfl
    rw [this, ez]
    rfl
  generalize ns.map PyData.int = D at *
  generalize ns.getD 0 0 = g0 at *
  generalize ns.getD 1 0 = g1 at *
  simp [f_law, fnOf1, b_law, c0, c1, m0, m1, hz]
end PF

open PySem PySem.W PyProof.Rows
set_option maxRecDepth 100000 in
set_option maxHeartbeats 0 in
theorem PySem.Challenge.cw_wallspace_k81_whole_hall_holds : PySem.Challenge.rw_wallspace_k81_whole_hall.Holds := by
  w_on; o_law; k_head; (case hw => w_witness2)
  k_fill
  refine PF.walk (l := PySem.Challenge.rw_wallspace_k81_whole_hall) rfl rfl (fun w h Y => PySem.W.kIn_of Y) ?F
  case F =>
    intro w mg fa h KX G hmg
    refine' PF.all_mk KX G hmg ?hA ?hp ?hd ?ho ?hs ?hm1 ?hm2 ?hk ?hi ?hif ?hkp ?hlI ?hcI ?hkI ?a0 ?i0 ?l0 ?c0 ?k0 ?a1 ?i1 ?l1 ?c1 ?k1 ?a2 ?l2 ?c2 ?k2 ?a3 ?l3 ?c3 ?k3 ?a4 ?l4 ?c4 ?k4 ?a5 ?i5 ?l5 ?c5 ?k5 ?a6 ?l6 ?c6 ?k6 ?a7 ?l7 ?c7 ?k7 ?a8 ?l8 ?c8 ?k8 ?a9 ?l9 ?c9 ?k9 ?a10 ?l10 ?c10 ?k10 ?a11 ?l11 ?c11 ?k11 ?a12 ?l12 ?c12 ?k12 ?a13 ?l13 ?c13 ?k13 ?a14 ?l14 ?c14 ?k14 ?a15 ?l15 ?c15 ?k15 ?a16 ?l16 ?c16 ?k16 ?xa0 ?xa1 ?xa2 ?xa3 ?xa4 ?xa5 ?xk0 ?xb0 ?xt0 ?xi0 ?xga0 ?xgg0 ?xha0 ?xhd0 ?xhm0 ?xsv0 ?xsn0 ?xx0 ?xk1 ?xb1 ?xt1 ?xi1 ?xga1 ?xgg1 ?xha1 ?xhd1 ?xhm1 ?xsv1 ?xsn1 ?xx1 ?xk2 ?xb2 ?xt2 ?xi2 ?xga2 ?xgg2 ?xha2 ?xhd2 ?xhm2 ?xsv2 ?xsn2 ?xx2 ?xk3 ?xb3 ?xt3 ?xi3 ?xga3 ?xgg3 ?xha3 ?xhd3 ?xhm3 ?xsv3 ?xsn3 ?xx3 ?xk4 ?xb4 ?xt4 ?xi4 ?xga4 ?xgg4 ?xha4 ?xhd4 ?xhm4 ?xsv4 ?xsn4 ?xx4 ?xk5 ?xb5 ?xt5 ?xi5 ?xga5 ?xgg5 ?xha5 ?xhd5 ?xhm5 ?xsv5 ?xsn5 ?xs00 ?xs01 ?xs02 ?xs03 ?xs04 ?xs05 ?xs10 ?xs11 ?xs12 ?xs13 ?xs14 ?xs15 ?xs20 ?xs21 ?xs22 ?xs23 ?xs24 ?xs25 ?xs30 ?xs31 ?xs32 ?xs33 ?xs34 ?xs35 ?xs40 ?xs41 ?xs42 ?xs43 ?xs44 ?xs45 ?xs50 ?xs51 ?xs52 ?xs53 ?xs54 ?xs55 ?xhn ?xht ?xL ?xsa ?xno ?xI ?xtI ?xlI ?xcI ?xkI ?z_ValueError ?z_abs ?z_any ?z_bool ?z_enumerate ?z_int ?z_isinstance ?z_len ?z_list ?z_max ?z_range ?z_tuple PF.law_true
    (case hA => k_is)
    (case hp => k_is)
    (case hd => k_is)
    (case ho => k_is)
    (case hs => k_is)
    (case hm1 => k_is)
    (case hm2 => k_is)
    (case hk => k_is)
    (case hi => k_is)
    (case hif => k_is)
    (case hkp => k_is)
    (case hlI => k_is)
    (case hcI => k_is)
    (case hkI => k_is)
    (case xa0 => k_is)
    (case xa1 => k_is)
    (case xa2 => k_is)
    (case xa3 => k_is)
    (case xa4 => k_is)
    (case xa5 => k_is)
    (case xk0 => k_is)
    (case xb0 => k_is)
    (case xt0 => k_is)
    (case xi0 => k_is)
    (case xga0 => k_is)
    (case xgg0 => k_is)
    (case xha0 => k_is)
    (case xhd0 => k_is)
    (case xhm0 => k_is)
    (case xsv0 => k_is)
    (case xsn0 => k_is)
    (case xx0 => k_exc)
    (case xk1 => k_is)
    (case xb1 => k_is)
    (case xt1 => k_is)
    (case xi1 => k_is)
    (case xga1 => k_is)
    (case xgg1 => k_is)
    (case xha1 => k_is)
    (case xhd1 => k_is)
    (case xhm1 => k_is)
    (case xsv1 => k_is)
    (case xsn1 => k_is)
    (case xx1 => k_exc)
    (case xk2 => k_is)
    (case xb2 => k_is)
    (case xt2 => k_is)
    (case xi2 => k_is)
    (case xga2 => k_is)
    (case xgg2 => k_is)
    (case xha2 => k_is)
    (case xhd2 => k_is)
    (case xhm2 => k_is)
    (case xsv2 => k_is)
    (case xsn2 => k_is)
    (case xx2 => k_exc)
    (case xk3 => k_is)
    (case xb3 => k_is)
    (case xt3 => k_is)
    (case xi3 => k_is)
    (case xga3 => k_is)
    (case xgg3 => k_is)
    (case xha3 => k_is)
    (case xhd3 => k_is)
    (case xhm3 => k_is)
    (case xsv3 => k_is)
    (case xsn3 => k_is)
    (case xx3 => k_exc)
    (case xk4 => k_is)
    (case xb4 => k_is)
    (case xt4 => k_is)
    (case xi4 => k_is)
    (case xga4 => k_is)
    (case xgg4 => k_is)
    (case xha4 => k_is)
    (case xhd4 => k_is)
    (case xhm4 => k_is)
    (case xsv4 => k_is)
    (case xsn4 => k_is)
    (case xx4 => k_exc)
    (case xk5 => k_is)
    (case xb5 => k_is)
    (case xt5 => k_is)
    (case xi5 => k_is)
    (case xga5 => k_is)
    (case xgg5 => k_is)
    (case xha5 => k_is)
    (case xhd5 => k_is)
    (case xhm5 => k_is)
    (case xsv5 => k_is)
    (case xsn5 => k_is)
    (case xs00 => first | rfl | k_is)
    (case xs01 => first | rfl | k_is)
    (case xs02 => first | rfl | k_is)
    (case xs03 => first | rfl | k_is)
    (case xs04 => first | rfl | k_is)
    (case xs05 => first | rfl | k_is)
    (case xs10 => first | rfl | k_is)
    (case xs11 => first | rfl | k_is)
    (case xs12 => first | rfl | k_is)
    (case xs13 => first | rfl | k_is)
    (case xs14 => first | rfl | k_is)
    (case xs15 => first | rfl | k_is)
    (case xs20 => first | rfl | k_is)
    (case xs21 => first | rfl | k_is)
    (case xs22 => first | rfl | k_is)
    (case xs23 => first | rfl | k_is)
    (case xs24 => first | rfl | k_is)
    (case xs25 => first | rfl | k_is)
    (case xs30 => first | rfl | k_is)
    (case xs31 => first | rfl | k_is)
    (case xs32 => first | rfl | k_is)
    (case xs33 => first | rfl | k_is)
    (case xs34 => first | rfl | k_is)
    (case xs35 => first | rfl | k_is)
    (case xs40 => first | rfl | k_is)
    (case xs41 => first | rfl | k_is)
    (case xs42 => first | rfl | k_is)
    (case xs43 => first | rfl | k_is)
    (case xs44 => first | rfl | k_is)
    (case xs45 => first | rfl | k_is)
    (case xs50 => first | rfl | k_is)
    (case xs51 => first | rfl | k_is)
    (case xs52 => first | rfl | k_is)
    (case xs53 => first | rfl | k_is)
    (case xs54 => first | rfl | k_is)
    (case xs55 => first | rfl | k_is)
    (case xhn => k_is)
    (case xht => k_is)
    (case xL => k_is)
    (case xsa => k_is)
    (case xno => k_is)
    (case xI => k_is)
    (case xtI => k_is)
    (case xlI => k_is)
    (case xcI => k_is)
    (case xkI => k_is)
    (case a0 => k_is); (case l0 => k_is); (case c0 => k_is); (case k0 => k_is); (case i0 => k_is)
    (case a1 => k_is); (case l1 => k_is); (case c1 => k_is); (case k1 => k_is); (case i1 => k_is)
    (case a2 => k_is); (case l2 => k_is); (case c2 => k_is); (case k2 => k_is)
    (case a3 => k_is); (case l3 => k_is); (case c3 => k_is); (case k3 => k_is)
    (case a4 => k_is); (case l4 => k_is); (case c4 => k_is); (case k4 => k_is)
    (case a5 => k_is); (case l5 => k_is); (case c5 => k_is); (case k5 => k_is); (case i5 => k_is)
    (case a6 => k_is); (case l6 => k_is); (case c6 => k_is); (case k6 => k_is)
    (case a7 => k_is); (case l7 => k_is); (case c7 => k_is); (case k7 => k_is)
    (case a8 => k_is); (case l8 => k_is); (case c8 => k_is); (case k8 => k_is)
    (case a9 => k_is); (case l9 => k_is); (case c9 => k_is); (case k9 => k_is)
    (case a10 => k_is); (case l10 => k_is); (case c10 => k_is); (case k10 => k_is)
    (case a11 => k_is); (case l11 => k_is); (case c11 => k_is); (case k11 => k_is)
    (case a12 => k_is); (case l12 => k_is); (case c12 => k_is); (case k12 => k_is)
    (case a13 => k_is); (case l13 => k_is); (case c13 => k_is); (case k13 => k_is)
    (case a14 => k_is); (case l14 => k_is); (case c14 => k_is); (case k14 => k_is)
    (case a15 => k_is); (case l15 => k_is); (case c15 => k_is); (case k15 => k_is)
    (case a16 => k_is); (case l16 => k_is); (case c16 => k_is); (case k16 => k_is)
    (case z_ValueError => k_is)
    (case z_abs => k_is)
    (case z_any => k_is)
    (case z_bool => k_is)
    (case z_enumerate => k_is)
    (case z_int => k_is)
    (case z_isinstance => k_is)
    (case z_len => k_is)
    (case z_list => k_is)
    (case z_max => k_is)
    (case z_range => k_is)
    (case z_tuple => k_is)

