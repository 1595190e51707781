import PyProof.Rows.All
import Wide.All
import OpenK.AllK
import Wide.FinOn
import HandS.ForMost
import HandS.Deep
import HandS.IsInst
import HandS.TupAny
import HandS.Walk
import HandS.Exc
import HandS.WordsExc
import HandS.ExcOwn
import HandS.Zip
import HandS.Rev
import HandS.NoneIn
import PySem.Challenge.RW_wallspace_k02_sums_and_products
set_option Elab.async false
set_option linter.all false
set_option maxRecDepth 100000
set_option maxHeartbeats 4000000
namespace PF
open PySem L2

/-! ### results, slots, environments -/
/-- an own exception: the number of its class, what it keeps -/
structure Exn where
  cls : Nat
  place : Option Int
  deriving DecidableEq
inductive Rs (α : Type) where
  | stuck
  | ok (a : α)
  | err (x : Exn)
def Rs.bind {α β : Type} : Rs α → (α → Rs β) → Rs β
  | .stuck, _ => .stuck
  | .ok a, f => f a
  | .err x, _ => .err x
instance : Monad Rs where
  pure := .ok
  bind := Rs.bind
theorem ok_bind {α β : Type} (a : α) (f : α → Rs β) : (Rs.ok a >>= f) = f a := rfl
theorem err_bind {α β : Type} (x : Exn) (f : α → Rs β) : ((Rs.err x : Rs α) >>= f) = .err x := rfl
theorem stuck_bind {α β : Type} (f : α → Rs β) : ((Rs.stuck : Rs α) >>= f) = .stuck := rfl
theorem pure_eq {α : Type} (a : α) : (pure a : Rs α) = .ok a := rfl
/-- what a slot holds: nothing told, shared data, a list of our own, a dict of our own, a caught error -/
inductive Sl where
  | no
  | sh (d : PyData)
  | ol (ds : List PyData)
  | od (kvs : List (List Int × PyData))
  | exn (x : Exn)
abbrev Env := List Sl
def Sl.own : Sl → Bool
  | .ol _ => true
  | .od _ => true
  | _ => false
/-- the fixed things: the written part, where the error classes stand -/
structure Pc where
  K : PySem.W.Frag
  ca : Nat → Addr

def Ex (H H' : Hp) : Prop := ∀ a o, H a = some o → H' a = some o
theorem Ex.refl (H : Hp) : Ex H H := fun _ _ h => h
theorem Ex.trans {H H1 H2 : Hp} (a : Ex H H1) (b : Ex H1 H2) : Ex H H2 := fun x o h => b x o (a x o h)
theorem Ex.new {H : Hp} {p : Addr} {o : HO} (h : H p = none) : Ex H (upd H p o) := fun a u e => by
  rw [upd_ne (ne_of_none e h)]
  exact e
theorem Ex.back {H H' : Hp} {p : Addr} (e : Ex H H') (h : H' p = none) : H p = none := by
  cases h1 : H p with
  | none => rfl
  | some o =>
    rw [e p o h1] at h
    cases h
theorem Ex.rd {H H' : Hp} {a : Addr} {u : HO} (e : Ex H H') (h : Rd H a u) : Rd H' a u := by
  rcases h with h | ⟨o, h⟩
  · exact Or.inl (e a _ h)
  · exact Or.inr ⟨o, e a _ h⟩
theorem Ex.sql {K : PySem.W.Frag} {H H' : Hp} {a : Addr} {xs : List V} (e : Ex H H') (h : SqL K H a xs) : SqL K H' a xs := by
  rcases h with h | h
  · exact Or.inl (e.rd h)
  · exact Or.inr h
theorem Ex.sqt {K : PySem.W.Frag} {H H' : Hp} {a : Addr} {xs : List V} (e : Ex H H') (h : SqT K H a xs) : SqT K H' a xs := by
  rcases h with h | h
  · exact Or.inl (e.rd h)
  · exact Or.inr h
mutual
theorem Dp.ex {K : PySem.W.Frag} {H H' : Hp} (e : Ex H H') : ∀ {v : V} {d : PyData}, Dp K H v d → Dp K H' v d
  | _, _, .non => .non
  | _, _, .bl b => .bl b
  | _, _, .int i => .int i
  | _, _, .str x => .str x
  | _, _, .lst h a => .lst (e.sql h) (DpAll.ex e a)
  | _, _, .tup h a => .tup (e.sqt h) (DpAll.ex e a)
theorem DpAll.ex {K : PySem.W.Frag} {H H' : Hp} (e : Ex H H') : ∀ {vs : List V} {ds : List PyData}, DpAll K H vs ds → DpAll K H' vs ds
  | _, _, .nil => .nil
  | _, _, .cons h a => .cons (Dp.ex e h) (DpAll.ex e a)
end
theorem DpAll.length {K : PySem.W.Frag} {H : Hp} : ∀ {vs : List V} {ds : List PyData}, DpAll K H vs ds → vs.length = ds.length
  | _, _, .nil => rfl
  | _, _, .cons _ a => congrArg (· + 1) (DpAll.length a)
theorem DpAll.get {K : PySem.W.Frag} {H : Hp} : ∀ {vs : List V} {ds : List PyData} {i : Nat} {v : V}, DpAll K H vs ds → vs[i]? = some v → ∃ d, ds[i]? = some d ∧ Dp K H v d
  | _, _, _, _, .nil, e => by simp at e
  | _, _, 0, _, .cons h _, e => by simp at e; subst e; exact ⟨_, rfl, h⟩
  | _, _, i + 1, v, .cons _ a, e => by
    obtain ⟨d, h1, h2⟩ := DpAll.get (i := i) (v := v) a (by simpa using e)
    exact ⟨d, by simpa using h1, h2⟩
theorem DpAll.getD {K : PySem.W.Frag} {H : Hp} : ∀ {vs : List V} {ds : List PyData} {i : Nat} {d : PyData}, DpAll K H vs ds → ds[i]? = some d → ∃ v, vs[i]? = some v ∧ Dp K H v d
  | _, _, _, _, .nil, e => by simp at e
  | _, _, 0, _, .cons h _, e => by simp at e; subst e; exact ⟨_, rfl, h⟩
  | _, _, i + 1, v, .cons _ a, e => by
    obtain ⟨d, h1, h2⟩ := DpAll.getD (i := i) (d := v) a (by simpa using e)
    exact ⟨d, by simpa using h1, h2⟩
theorem DpAll.append {K : PySem.W.Frag} {H : Hp} : ∀ {vs ws : List V} {ds es : List PyData}, DpAll K H vs ds → DpAll K H ws es → DpAll K H (vs ++ ws) (ds ++ es)
  | _, _, _, _, .nil, b => b
  | _, _, _, _, .cons h a, b => .cons h (DpAll.append a b)
theorem DpAll.take {K : PySem.W.Frag} {H : Hp} : ∀ {vs : List V} {ds : List PyData} (n : Nat), DpAll K H vs ds → DpAll K H (vs.take n) (ds.take n)
  | _, _, 0, _ => by simp; exact .nil
  | _, _, _ + 1, .nil => by simp; exact .nil
  | _, _, n + 1, .cons h a => .cons h (DpAll.take n a)
theorem DpAll.drop {K : PySem.W.Frag} {H : Hp} : ∀ {vs : List V} {ds : List PyData} (n : Nat), DpAll K H vs ds → DpAll K H (vs.drop n) (ds.drop n)
  | _, _, 0, a => a
  | _, _, _ + 1, .nil => by simp; exact .nil
  | _, _, n + 1, .cons _ a => DpAll.drop n a
theorem DpAll.set {K : PySem.W.Frag} {H : Hp} {x : V} {d : PyData} (h : Dp K H x d) : ∀ {vs : List V} {ds : List PyData} (i : Nat), DpAll K H vs ds → DpAll K H (vs.set i x) (ds.set i d)
  | _, _, _, .nil => .nil
  | _, _, 0, .cons _ a => .cons h a
  | _, _, i + 1, .cons q a => .cons q (DpAll.set h i a)
theorem DpAll.eraseIdx {K : PySem.W.Frag} {H : Hp} : ∀ {vs : List V} {ds : List PyData} (i : Nat), DpAll K H vs ds → DpAll K H (vs.eraseIdx i) (ds.eraseIdx i)
  | _, _, _, .nil => .nil
  | _, _, 0, .cons _ a => a
  | _, _, i + 1, .cons q a => .cons q (DpAll.eraseIdx i a)
theorem DpAll.reverse {K : PySem.W.Frag} {H : Hp} : ∀ {vs : List V} {ds : List PyData}, DpAll K H vs ds → DpAll K H vs.reverse ds.reverse
  | _, _, .nil => .nil
  | _, _, .cons h a => by
    rw [List.reverse_cons, List.reverse_cons]
    exact DpAll.append (DpAll.reverse a) (.cons h .nil)
/-- the value of an int, a bool, None is known -/
theorem Dp.int_v {K : PySem.W.Frag} {H : Hp} {v : V} {i : Int} (h : Dp K H v (.int i)) : v = .int i := by cases h; rfl
theorem Dp.bl_v {K : PySem.W.Frag} {H : Hp} {v : V} {b : Bool} (h : Dp K H v (.bool b)) : v = .bl b := by cases h; rfl
theorem Dp.non_v {K : PySem.W.Frag} {H : Hp} {v : V} (h : Dp K H v .none) : v = .non := by cases h; rfl
theorem Dp.list_v {K : PySem.W.Frag} {H : Hp} {v : V} {ds : List PyData} (h : Dp K H v (.list ds)) : ∃ a xs, v = .ref a ∧ SqL K H a xs ∧ DpAll K H xs ds := by
  cases h with
  | lst h a => exact ⟨_, _, rfl, h, a⟩
theorem Dp.tuple_v {K : PySem.W.Frag} {H : Hp} {v : V} {ds : List PyData} (h : Dp K H v (.tuple ds)) : ∃ a xs, v = .ref a ∧ SqT K H a xs ∧ DpAll K H xs ds := by
  cases h with
  | tup h a => exact ⟨_, _, rfl, h, a⟩

/-! ### the visible heap G within the heap H -/
def NoOwn (o : Option HO) : Prop := o = none ∨ ∃ xs, o = some (.tup xs)
structure Nx (G H G' H' : Hp) : Prop where
  g : Ex G G'
  h : Ex H H'
  gh : Ex G' H'
  fr : ∀ a, H a ≠ none → G a = none → NoOwn (G' a)
theorem Nx.refl {G H : Hp} (e : Ex G H) : Nx G H G H := ⟨Ex.refl _, Ex.refl _, e, fun _ _ h => .inl h⟩
theorem Nx.trans {G H G1 H1 G2 H2 : Hp} (a : Nx G H G1 H1) (b : Nx G1 H1 G2 H2) : Nx G H G2 H2 := by
  refine ⟨a.g.trans b.g, a.h.trans b.h, b.gh, fun x hx gx => ?_⟩
  rcases a.fr x hx gx with h | ⟨xs, h⟩
  · refine b.fr x (fun z => hx ?_) h
    exact a.h.back z
  · exact .inr ⟨xs, b.g _ _ h⟩
/-- a new object, visible -/
theorem Nx.new {G H : Hp} {p : Addr} {o : HO} (e : Ex G H) (h : H p = none) : Nx G H (upd G p o) (upd H p o) := by
  have gp : G p = none := e.back h
  refine ⟨Ex.new gp, Ex.new h, fun a u q => ?_, fun a ha ga => ?_⟩
  · by_cases hp : a = p
    · subst hp
      rw [upd_same] at q ⊢
      exact q
    · rw [upd_ne hp] at q ⊢
      exact e a u q
  · have hp : a ≠ p := fun z => ha (by rw [z]; exact h)
    rw [upd_ne hp]
    exact .inl ga
/-- a new object, not shown yet -/
theorem Nx.hid {G H : Hp} {p : Addr} {o : HO} (e : Ex G H) (h : H p = none) : Nx G H G (upd H p o) :=
  ⟨Ex.refl _, Ex.new h, e.trans (Ex.new h), fun _ _ q => .inl q⟩
/-- an object that was not there at (G, H) is shown now -/
theorem Nx.show {G H G1 H1 : Hp} {p : Addr} {o : HO} (n : Nx G H G1 H1) (h0 : H p = none) (h1 : H1 p = some o) (g1 : G1 p = none) : Nx G H (upd G1 p o) H1 := by
  refine ⟨fun a u q => ?_, n.h, fun a u q => ?_, fun a ha ga => ?_⟩
  · have := n.g a u q
    rw [upd_ne (ne_of_none this g1)]
    exact this
  · by_cases hp : a = p
    · subst hp
      rw [upd_same] at q
      cases q
      exact h1
    · rw [upd_ne hp] at q
      exact n.gh a u q
  · have hp : a ≠ p := fun z => ha (by rw [z]; exact h0)
    rw [upd_ne hp]
    exact n.fr a ha ga

/-! ### a dict of our own -/
def KvOk (K : PySem.W.Frag) (G : Hp) (es : List (List Key × V)) (kvs : List (List Int × PyData)) : Prop :=
  es.map (·.1) = kvs.map (fun kv => kv.1.map Sum.inl) ∧ DpAll K G (es.map (·.2)) (kvs.map (·.2))
theorem KvOk.ex {K : PySem.W.Frag} {G G' : Hp} {es : List (List Key × V)} {kvs : List (List Int × PyData)} (e : Ex G G') (h : KvOk K G es kvs) : KvOk K G' es kvs := ⟨h.1, DpAll.ex e h.2⟩

/-! ### an error as it flies, as it is held -/
def XR (c : Pc) (x : Exn) (cl : Value) (dd : Option Addr) (H : Hp) : Prop :=
  cl = .ref (c.ca x.cls) ∧ (match x.place with
    | none => dd = none
    | some i => ∃ d, dd = some d ∧ H d = some (.xd [("place", .int i)]))
/-- an error's object, held -/
def excO (C : Addr) (d : Option Addr) (a : Addr) : HO := .ext fun h => ∃ oe vs, h.get? a = some oe ∧ oe.cls = .ref C ∧ oe.dict = d ∧ oe.data = .fields vs
def ExnOk (c : Pc) (G : Hp) (v : V) (x : Exn) : Prop :=
  ∃ a dd, v = .ref a ∧ G a = some (excO (c.ca x.cls) dd a) ∧ (match x.place with
    | none => dd = none
    | some i => ∃ d, dd = some d ∧ G d = some (.xd [("place", .int i)]))
theorem ExnOk.ex {c : Pc} {G G' : Hp} {v : V} {x : Exn} (e : Ex G G') (h : ExnOk c G v x) : ExnOk c G' v x := by
  obtain ⟨a, dd, e1, e2, e3⟩ := h
  refine ⟨a, dd, e1, e _ _ e2, ?_⟩
  cases hp : x.place with
  | none => rw [hp] at e3; exact e3
  | some i =>
    rw [hp] at e3
    obtain ⟨d, q1, q2⟩ := e3
    exact ⟨d, q1, e _ _ q2⟩

/-! ### slots and environments over the heap -/
def SlOk (c : Pc) (G H : Hp) : Sl → Option V → Prop
  | .no, _ => True
  | .sh d, o => ∃ v, o = some v ∧ Dp c.K G v d
  | .ol ds, o => ∃ p xs, o = some (.ref p) ∧ G p = none ∧ H p = some (.lst xs) ∧ DpAll c.K G xs ds
  | .od kvs, o => ∃ p es, o = some (.ref p) ∧ G p = none ∧ H p = some (.dT es) ∧ KvOk c.K G es kvs
  | .exn x, o => ∃ v, o = some v ∧ ExnOk c G v x
theorem SlOk.nx {c : Pc} {G H G' H' : Hp} {s : Sl} {o : Option V} (n : Nx G H G' H') (h : SlOk c G H s o) : SlOk c G' H' s o := by
  have key : ∀ p u, G p = none → H p = some u → (∀ xs, u ≠ .tup xs) → G' p = none := fun p u g1 h1 hu => by
    rcases n.fr p (by rw [h1]; simp) g1 with q | ⟨xs, q⟩
    · exact q
    · have e1 := n.gh _ _ q
      have e2 := n.h _ _ h1
      rw [e1] at e2
      cases e2
      exact absurd rfl (hu xs)
  cases s with
  | no => trivial
  | sh d => obtain ⟨v, e, q⟩ := h; exact ⟨v, e, Dp.ex n.g q⟩
  | ol ds => obtain ⟨p, xs, e, g1, h1, q⟩ := h; exact ⟨p, xs, e, key p _ g1 h1 (fun _ z => by cases z), n.h _ _ h1, DpAll.ex n.g q⟩
  | od kvs => obtain ⟨p, es, e, g1, h1, q⟩ := h; exact ⟨p, es, e, key p _ g1 h1 (fun _ z => by cases z), n.h _ _ h1, KvOk.ex n.g q⟩
  | exn x => obtain ⟨v, e, q⟩ := h; exact ⟨v, e, q.ex n.g⟩
structure Rep (c : Pc) (G H : Hp) (ρ : Env) (σ : L2.St) : Prop where
  gh : Ex G H
  len : ρ.length = σ.length
  sl : ∀ (i : Nat) s, ρ[i]? = some s → ∃ o, σ[i]? = some o ∧ SlOk c G H s o
  inj : ∀ (i j : Nat) s s' p, ρ[i]? = some s → ρ[j]? = some s' → s.own = true → s'.own = true → σ[i]? = some (some (.ref p)) → σ[j]? = some (some (.ref p)) → i = j
theorem Rep.nx {c : Pc} {G H G' H' : Hp} {ρ : Env} {σ : L2.St} (r : Rep c G H ρ σ) (n : Nx G H G' H') : Rep c G' H' ρ σ :=
  ⟨n.gh, r.len, fun i s e => let ⟨o, e1, q⟩ := r.sl i s e; ⟨o, e1, q.nx n⟩, r.inj⟩
/-- a slot takes shared data (or nothing told) -/
theorem Rep.set {c : Pc} {G H : Hp} {ρ : Env} {σ : L2.St} {i : Nat} {s : Sl} {o : Option V} (r : Rep c G H ρ σ) (hs : s.own = false) (h : SlOk c G H s o) : Rep c G H (ρ.set i s) (σ.set i o) := by
  refine ⟨r.gh, by rw [List.length_set, List.length_set, r.len], fun j u e => ?_, fun j k u u' p e1 e2 w1 w2 f1 f2 => ?_⟩
  · rw [List.getElem?_set] at e ⊢
    by_cases hij : i = j
    · rw [if_pos hij] at e ⊢
      by_cases hl : i < ρ.length
      · rw [if_pos hl] at e
        cases e
        rw [if_pos (by rw [← r.len]; exact hl)]
        exact ⟨o, rfl, h⟩
      · rw [if_neg hl] at e
        cases e
    · rw [if_neg hij] at e ⊢
      exact r.sl j u e
  · have key : ∀ (m : Nat) (w : Sl), (ρ.set i s)[m]? = some w → w.own = true → i ≠ m := fun m w e hw z => by
      rw [List.getElem?_set, if_pos z] at e
      split at e
      · cases e; rw [hs] at hw; cases hw
      · cases e
    have n1 := key j u e1 w1
    have n2 := key k u' e2 w2
    rw [List.getElem?_set, if_neg n1] at e1 f1
    rw [List.getElem?_set, if_neg n2] at e2 f2
    exact r.inj j k u u' p e1 e2 w1 w2 f1 f2
/-- a slot takes an object of our own that no slot held -/
theorem Rep.setOwn {c : Pc} {G H : Hp} {ρ : Env} {σ : L2.St} {i : Nat} {s : Sl} {p : Addr} (r : Rep c G H ρ σ) (h : SlOk c G H s (some (.ref p)))
    (hn : ∀ (j : Nat) u, j ≠ i → ρ[j]? = some u → u.own = true → σ[j]? ≠ some (some (.ref p))) : Rep c G H (ρ.set i s) (σ.set i (some (.ref p))) := by
  refine ⟨r.gh, by rw [List.length_set, List.length_set, r.len], fun j u e => ?_, fun j k u u' q e1 e2 w1 w2 f1 f2 => ?_⟩
  · rw [List.getElem?_set] at e ⊢
    by_cases hij : i = j
    · rw [if_pos hij] at e ⊢
      by_cases hl : i < ρ.length
      · rw [if_pos hl] at e
        cases e
        rw [if_pos (by rw [← r.len]; exact hl)]
        exact ⟨_, rfl, h⟩
      · rw [if_neg hl] at e
        cases e
    · rw [if_neg hij] at e ⊢
      exact r.sl j u e
  · by_cases h1 : i = j
    · by_cases h2 : i = k
      · rw [← h1, ← h2]
      · rw [List.getElem?_set, if_pos h1] at f1
        rw [List.getElem?_set, if_neg h2] at f2 e2
        split at f1
        · cases f1
          exact absurd f2 (hn k u' (fun z => h2 z.symm) e2 w2)
        · cases f1
    · by_cases h2 : i = k
      · rw [List.getElem?_set, if_neg h1] at f1 e1
        rw [List.getElem?_set, if_pos h2] at f2
        split at f2
        · cases f2
          exact absurd f1 (hn j u (fun z => h1 z.symm) e1 w1)
        · cases f2
      · rw [List.getElem?_set, if_neg h1] at f1 e1
        rw [List.getElem?_set, if_neg h2] at f2 e2
        exact r.inj j k u u' q e1 e2 w1 w2 f1 f2
/-- an owned object of slot i is rewritten -/
theorem Rep.mut {c : Pc} {G H : Hp} {ρ : Env} {σ : L2.St} {i : Nat} {s s' : Sl} {p : Addr} {o' : HO} (r : Rep c G H ρ σ) (hi : ρ[i]? = some s) (ho : s.own = true) (hp : σ[i]? = some (some (.ref p)))
    (gp : G p = none) (h : SlOk c G (upd H p o') s' (some (.ref p))) : Rep c G (upd H p o') (ρ.set i s') σ := by
  have e0 : σ.set i (some (.ref p)) = σ := by
    apply List.ext_getElem?
    intro j
    rw [List.getElem?_set]
    by_cases hij : i = j
    · rw [if_pos hij]
      have hl : i < σ.length := (List.getElem?_eq_some_iff.mp hp).1
      rw [if_pos hl, ← hij]
      exact hp.symm
    · rw [if_neg hij]
  have r1 : ∀ (j : Nat) u, ρ[j]? = some u → j ≠ i → ∃ o, σ[j]? = some o ∧ SlOk c G (upd H p o') u o := fun j u e hj => by
    obtain ⟨o, e1, q⟩ := r.sl j u e
    refine ⟨o, e1, ?_⟩
    have ne : ∀ b, o = some (.ref b) → u.own = true → b ≠ p := fun b eb hu z => by
      subst z
      rw [eb] at e1
      exact hj (r.inj j i u s b e hi hu ho e1 hp)
    cases u with
    | no => trivial
    | sh d => exact q
    | ol ds => obtain ⟨b, xs, e2, g1, h1, q2⟩ := q; exact ⟨b, xs, e2, g1, by rw [upd_ne (ne b e2 rfl)]; exact h1, q2⟩
    | od kvs => obtain ⟨b, xs, e2, g1, h1, q2⟩ := q; exact ⟨b, xs, e2, g1, by rw [upd_ne (ne b e2 rfl)]; exact h1, q2⟩
    | exn x => exact q
  have gh : Ex G (upd H p o') := fun a u q => by
    rw [upd_ne (ne_of_none q gp)]
    exact r.gh a u q
  refine ⟨gh, by rw [List.length_set, r.len], fun j u e => ?_, fun j k u u' q e1 e2 w1 w2 f1 f2 => ?_⟩
  · rw [List.getElem?_set] at e
    by_cases hij : i = j
    · rw [if_pos hij] at e
      split at e
      · cases e
        rw [← hij]
        exact ⟨_, hp, h⟩
      · cases e
    · rw [if_neg hij] at e
      exact r1 j u e (fun z => hij z.symm)
  · have key : ∀ (m : Nat) w, (ρ.set i s')[m]? = some w → w.own = true → ∃ w', ρ[m]? = some w' ∧ w'.own = true := fun m w e hw => by
      rw [List.getElem?_set] at e
      by_cases him : i = m
      · rw [← him]
        exact ⟨s, hi, ho⟩
      · rw [if_neg him] at e
        exact ⟨w, e, hw⟩
    obtain ⟨w, a1, a2⟩ := key j u e1 w1
    obtain ⟨w', b1, b2⟩ := key k u' e2 w2
    exact r.inj j k w w' q a1 b1 a2 b2 f1 f2
/-- what our own objects are: not those of the entry -/
structure Ent (G0 H0 G H : Hp) (ρ : Env) (σ : L2.St) : Prop where
  nx : Nx G0 H0 G H
  own : ∀ (i : Nat) s p, ρ[i]? = some s → s.own = true → σ[i]? = some (some (.ref p)) → H0 p = none
theorem Ent.go {G0 H0 G H G' H' : Hp} {ρ : Env} {σ : L2.St} (e : Ent G0 H0 G H ρ σ) (n : Nx G H G' H') : Ent G0 H0 G' H' ρ σ := ⟨e.nx.trans n, e.own⟩
end PF

namespace PF
open PySem L2

/-- shared data, or a list of our own whose items are shared -/
def Db (K : PySem.W.Frag) (G H : Hp) (v : V) (d : PyData) : Prop := Dp K G v d ∨ ∃ a xs ds, d = .list ds ∧ v = .ref a ∧ SqL K H a xs ∧ DpAll K G xs ds
theorem db_h {K : PySem.W.Frag} {G H : Hp} {v : V} {d : PyData} (e : Ex G H) (h : Db K G H v d) : Dp K H v d := by
  rcases h with h | ⟨a, xs, ds, rfl, rfl, h, q⟩
  · exact Dp.ex e h
  · exact .lst h (DpAll.ex e q)
theorem db_nx {K : PySem.W.Frag} {G H G' H' : Hp} {v : V} {d : PyData} (n : Nx G H G' H') (h : Db K G H v d) : Db K G' H' v d := by
  rcases h with h | ⟨a, xs, ds, rfl, rfl, h, q⟩
  · exact .inl (Dp.ex n.g h)
  · exact .inr ⟨a, xs, ds, rfl, rfl, Ex.sql n.h h, DpAll.ex n.g q⟩
theorem db_list {K : PySem.W.Frag} {G H : Hp} {v : V} {ds : List PyData} (e : Ex G H) (h : Db K G H v (.list ds)) : ∃ a xs, v = .ref a ∧ SqL K H a xs ∧ DpAll K G xs ds := by
  rcases h with h | ⟨a, xs, ds, z, rfl, h, q⟩
  · obtain ⟨a, xs, rfl, h, q⟩ := Dp.list_v h
    exact ⟨a, xs, rfl, Ex.sql e h, q⟩
  · cases z
    exact ⟨a, xs, rfl, h, q⟩
theorem db_tup {K : PySem.W.Frag} {G H : Hp} {v : V} {ds : List PyData} (h : Db K G H v (.tuple ds)) : ∃ a xs, v = .ref a ∧ SqT K G a xs ∧ DpAll K G xs ds := by
  rcases h with h | ⟨a, xs, ds, z, _⟩
  · exact Dp.tuple_v h
  · cases z
theorem db_int {K : PySem.W.Frag} {G H : Hp} {v : V} {i : Int} (h : Db K G H v (.int i)) : v = .int i := by
  rcases h with h | ⟨a, xs, ds, z, _⟩
  · exact Dp.int_v h
  · cases z
theorem db_bl {K : PySem.W.Frag} {G H : Hp} {v : V} {i : Bool} (h : Db K G H v (.bool i)) : v = .bl i := by
  rcases h with h | ⟨a, xs, ds, z, _⟩
  · exact Dp.bl_v h
  · cases z
theorem db_non {K : PySem.W.Frag} {G H : Hp} {v : V} (h : Db K G H v .none) : v = .non := by
  rcases h with h | ⟨a, xs, ds, z, _⟩
  · exact Dp.non_v h
  · cases z

/-! ### what a reading gives -/
abbrev Rel (β α : Type) := Hp → Hp → Hp → Hp → β → α → Prop
def ErrP {α : Type} (c : Pc) (E : XK) (G H : Hp) (r : Rs α) : Prop := ∀ x, r = .err x → ∀ G' H' cl dd, Nx G H G' H' → XR c x cl dd H' → E cl dd H'
theorem ErrP.go {α : Type} {c : Pc} {E : XK} {G H G' H' : Hp} {r : Rs α} (h : ErrP c E G H r) (n : Nx G H G' H') : ErrP c E G' H' r := fun x e _ _ _ _ m q => h x e _ _ _ _ (n.trans m) q
def SemG {β α : Type} (c : Pc) (E : XK) (t : L2.St → Hp → (β → Hp → Prop) → Prop) (F : Env → Rs α) (R : Rel β α) : Prop :=
  ∀ (G H : Hp) (ρ : Env) (σ : L2.St), Rep c G H ρ σ → F ρ ≠ .stuck → ∀ Q : β → Hp → Prop,
    (∀ a, F ρ = .ok a → ∀ G' H' v, Nx G H G' H' → R G H G' H' v a → Q v H') → ErrP c E G H (F ρ) → t σ H Q
theorem SemG.use {β α γ : Type} {c : Pc} {E : XK} {t : L2.St → Hp → (β → Hp → Prop) → Prop} {F : Env → Rs α} {R : Rel β α} (h : SemG c E t F R) {k : α → Rs γ} {G H : Hp} {ρ : Env} {σ : L2.St} (rep : Rep c G H ρ σ)
    (hns : (F ρ >>= k) ≠ .stuck) (her : ErrP c E G H (F ρ >>= k)) {Q : β → Hp → Prop}
    (go : ∀ a, F ρ = .ok a → (F ρ >>= k) = k a → ∀ G' H' v, Nx G H G' H' → Rep c G' H' ρ σ → R G H G' H' v a → k a ≠ .stuck → ErrP c E G' H' (k a) → Q v H') : t σ H Q := by
  refine h G H ρ σ rep (fun z => hns (by rw [z]; rfl)) Q (fun a e G' H' v n q => ?_) (fun x e => ?_)
  · have e1 : (F ρ >>= k) = k a := by rw [e]; rfl
    refine go a e e1 G' H' v n (rep.nx n) q (by rw [← e1]; exact hns) ?_
    rw [← e1]
    exact her.go n
  · exact her x (by rw [e]; rfl)
def RB (c : Pc) : Rel V PyData := fun _ _ G' H' v d => Db c.K G' H' v d
def RS (c : Pc) : Rel V PyData := fun _ _ G' _ v d => Dp c.K G' v d
def RV (c : Pc) : Rel V Sl := fun _ H G' H' v s => match s with
  | .no => False
  | .sh d => Dp c.K G' v d
  | .ol ds => ∃ p xs, v = .ref p ∧ H p = none ∧ G' p = none ∧ H' p = some (.lst xs) ∧ DpAll c.K G' xs ds
  | .od kvs => ∃ p es, v = .ref p ∧ H p = none ∧ G' p = none ∧ H' p = some (.dT es) ∧ KvOk c.K G' es kvs
  | .exn x => ExnOk c G' v x
def RT : Rel Bool Bool := fun _ _ _ _ b a => b = a
def RA (c : Pc) : Rel (List V) (List PyData) := fun _ _ G' _ vs ds => DpAll c.K G' vs ds
def RO : Rel (Option Int) (Option Int) := fun _ _ _ _ b a => b = a
theorem RV.mono {c : Pc} {G H G1 H1 G' H' : Hp} {v : V} {s : Sl} (n : Nx G H G1 H1) (h : RV c G1 H1 G' H' v s) : RV c G H G' H' v s := by
  cases s with
  | no => exact h
  | sh d => exact h
  | ol ds => obtain ⟨p, xs, e, h1, q⟩ := h; exact ⟨p, xs, e, n.h.back h1, q⟩
  | od ds => obtain ⟨p, xs, e, h1, q⟩ := h; exact ⟨p, xs, e, n.h.back h1, q⟩
  | exn x => exact h

/-! ### the judgements: the syntax's reading, and what it computes -/
structure JB (ca : Nat → Addr) (X : Cx) (E : XK) (e : Expr) (t : TE) (F : Env → Rs PyData) : Prop where
  pe : PE X e t
  sem : SemG ⟨X.K, ca⟩ E t F (RB ⟨X.K, ca⟩)
structure JS (ca : Nat → Addr) (X : Cx) (E : XK) (e : Expr) (t : TE) (F : Env → Rs PyData) : Prop where
  pe : PE X e t
  sem : SemG ⟨X.K, ca⟩ E t F (RS ⟨X.K, ca⟩)
structure JV (ca : Nat → Addr) (X : Cx) (E : XK) (e : Expr) (t : TE) (F : Env → Rs Sl) : Prop where
  pe : PE X e t
  sem : SemG ⟨X.K, ca⟩ E t F (RV ⟨X.K, ca⟩)
structure JT (ca : Nat → Addr) (X : Cx) (E : XK) (e : Expr) (t : TT) (F : Env → Rs Bool) : Prop where
  pt : PT X e t
  sem : SemG ⟨X.K, ca⟩ E t F RT
structure JA (ca : Nat → Addr) (X : Cx) (E : XK) (es : List Expr) (t : TA) (F : Env → Rs (List PyData)) : Prop where
  pa : PA X es t
  sem : SemG ⟨X.K, ca⟩ E t F (RA ⟨X.K, ca⟩)
structure JO (ca : Nat → Addr) (X : Cx) (E : XK) (e : Option Expr) (t : TO) (F : Env → Rs (Option Int)) : Prop where
  po : PO X e t
  sem : SemG ⟨X.K, ca⟩ E t F RO

def slShare : Sl → Rs PyData
  | .sh d => .ok d
  | .ol ds => .ok (.list ds)
  | _ => .stuck
def fSh (F : Env → Rs Sl) : Env → Rs PyData := fun ρ => F ρ >>= slShare
def fV (F : Env → Rs PyData) : Env → Rs Sl := fun ρ => F ρ >>= fun d => .ok (.sh d)
section
variable {ca : Nat → Addr} {X : Cx} {E : XK} {e : Expr} {t : TE}
theorem jb_s {F : Env → Rs PyData} (h : JS ca X E e t F) : JB ca X E e t F :=
  ⟨h.pe, fun G H ρ σ rep hns Q ok er => h.sem G H ρ σ rep hns Q (fun a ea G' H' v n q => ok a ea G' H' v n (.inl q)) er⟩
theorem jv_s {F : Env → Rs PyData} (h : JS ca X E e t F) : JV ca X E e t (fV F) :=
  ⟨h.pe, fun G H ρ σ rep hns Q ok er => h.sem.use rep hns er fun a ea e1 G' H' v n _ q _ _ => ok (.sh a) e1 G' H' v n q⟩
theorem js_v {F : Env → Rs Sl} (h : JV ca X E e t F) : JS ca X E e t (fSh F) := by
  refine ⟨h.pe, fun G H ρ σ rep hns Q ok er => h.sem.use rep hns er fun a ea e1 G' H' v n _ q hk _ => ?_⟩
  cases a with
  | no => exact absurd rfl hk
  | sh d => exact ok d e1 G' H' v n q
  | ol ds =>
    obtain ⟨p, xs, rfl, h0, g1, h1, q⟩ := q
    have m := n.show h0 h1 g1
    refine ok (.list ds) e1 (upd G' p (.lst xs)) H' _ m ?_
    have x : Ex G' (upd G' p (.lst xs)) := Ex.new g1
    exact Dp.lst (.inl (.inl upd_same)) (DpAll.ex x q)
  | od kvs => exact absurd rfl hk
  | exn x => exact absurd rfl hk
end

/-! ### names, constants -/
def slB : Option Sl → Rs PyData
  | some (.sh d) => .ok d
  | some (.ol ds) => .ok (.list ds)
  | _ => .stuck
def slS : Option Sl → Rs PyData
  | some (.sh d) => .ok d
  | _ => .stuck
def fVarB (i : Nat) : Env → Rs PyData := fun ρ => slB ρ[i]?
def fVarS (i : Nat) : Env → Rs PyData := fun ρ => slS ρ[i]?
def fC (d : PyData) : Env → Rs PyData := fun _ => .ok d
section
variable {ca : Nat → Addr} {X : Cx} {E : XK} {pos : Pos}
theorem jb_var (i : Nat) {x : Str} (h : PE X (.Name x pos) (tVar i)) : JB ca X E (.Name x pos) (tVar i) (fVarB i) := by
  refine ⟨h, fun G H ρ σ rep hns Q ok er => ?_⟩
  unfold fVarB at hns ok
  cases hs : ρ[i]? with
  | none => rw [hs] at hns; exact absurd rfl hns
  | some s =>
    rw [hs] at hns ok
    obtain ⟨o, e1, q⟩ := rep.sl i s hs
    cases s with
    | sh d =>
      obtain ⟨v, rfl, q⟩ := q
      exact ⟨v, e1, ok d rfl G H v (Nx.refl rep.gh) (.inl q)⟩
    | ol ds =>
      obtain ⟨p, xs, rfl, g1, h1, q⟩ := q
      exact ⟨_, e1, ok (.list ds) rfl G H _ (Nx.refl rep.gh) (.inr ⟨_, _, _, rfl, rfl, .inl (.inl h1), q⟩)⟩
    | no => exact absurd rfl hns
    | od _ => exact absurd rfl hns
    | exn _ => exact absurd rfl hns
theorem js_var (i : Nat) {x : Str} (h : PE X (.Name x pos) (tVar i)) : JS ca X E (.Name x pos) (tVar i) (fVarS i) := by
  refine ⟨h, fun G H ρ σ rep hns Q ok er => ?_⟩
  unfold fVarS at hns ok
  cases hs : ρ[i]? with
  | none => rw [hs] at hns; exact absurd rfl hns
  | some s =>
    rw [hs] at hns ok
    obtain ⟨o, e1, q⟩ := rep.sl i s hs
    cases s with
    | sh d =>
      obtain ⟨v, rfl, q⟩ := q
      exact ⟨v, e1, ok d rfl G H v (Nx.refl rep.gh) q⟩
    | ol ds => exact absurd rfl hns
    | no => exact absurd rfl hns
    | od _ => exact absurd rfl hns
    | exn _ => exact absurd rfl hns
theorem sem_c {c : Pc} {v : V} {d : PyData} (h : ∀ G, Dp c.K G v d) : SemG c E (tC v) (fC d) (RS c) :=
  fun G H ρ σ rep _ Q ok _ => ok d rfl G H v (Nx.refl rep.gh) (h G)
theorem js_int {i : Int} {j : Nat} : JS ca X E (.Constant (.int i) j pos) (tC (.int i)) (fC (.int i)) := ⟨pe_int, sem_c fun _ => .int i⟩
theorem js_bl {b : Bool} {j : Nat} : JS ca X E (.Constant (.bool b) j pos) (tC (.bl b)) (fC (.bool b)) := ⟨pe_bl, sem_c fun _ => .bl b⟩
theorem js_non {j : Nat} : JS ca X E (.Constant .none j pos) (tC .non) (fC .none) := ⟨pe_non, sem_c fun _ => .non⟩
end

/-! ### two-place operations -/
def fOp {α : Type} (f : PyData → PyData → Rs α) (Fa Fb : Env → Rs PyData) : Env → Rs α := fun ρ => Fa ρ >>= fun a => Fb ρ >>= fun b => f a b
/-- f is computed by the rule r -/
structure OpSem {α : Type} (c : Pc) (r : R2) (f : PyData → PyData → Rs α) (R : Rel V α) : Prop where
  go : ∀ G H x y a b s, Ex G H → Db c.K G H x a → Db c.K G H y b → f a b = .ok s → ∀ Q : VK, (∀ G' H' v, Nx G H G' H' → R G H G' H' v s → Q v H') → r x y H Q
  ne : ∀ a b x, f a b ≠ .err x
theorem sem_op {α : Type} {c : Pc} {E : XK} {r : R2} {f : PyData → PyData → Rs α} {R : Rel V α} {ta tb : TE} {Fa Fb : Env → Rs PyData} (hr : OpSem c r f R)
    (hR : ∀ G H G1 H1 G' H' v s, Nx G H G1 H1 → R G1 H1 G' H' v s → R G H G' H' v s) (ha : SemG c E ta Fa (RB c)) (hb : SemG c E tb Fb (RB c)) : SemG c E (tOp r ta tb) (fOp f Fa Fb) R := by
  intro G H ρ σ rep hns Q ok er
  refine ha.use rep hns er fun a ea e1 G1 H1 x n1 r1 q1 h1 er1 => ?_
  refine hb.use r1 h1 er1 fun b eb e2 G2 H2 y n2 r2 q2 h2 er2 => ?_
  cases hf : f a b with
  | stuck => exact absurd hf h2
  | err z => exact absurd hf (hr.ne a b z)
  | ok s =>
    refine hr.go G2 H2 x y a b s n2.gh (db_nx n2 q1) q2 hf Q fun G' H' v n3 q3 => ?_
    refine ok s ?_ G' H' v ((n1.trans n2).trans n3) (hR _ _ _ _ _ _ _ _ (n1.trans n2) q3)
    unfold fOp
    rw [e1, e2, hf]
theorem RS.mono {c : Pc} : ∀ (G H G1 H1 G' H' : Hp) (v : V) (s : PyData), Nx G H G1 H1 → RS c G1 H1 G' H' v s → RS c G H G' H' v s := fun _ _ _ _ _ _ _ _ _ h => h
theorem RV.mono' {c : Pc} : ∀ (G H G1 H1 G' H' : Hp) (v : V) (s : Sl), Nx G H G1 H1 → RV c G1 H1 G' H' v s → RV c G H G' H' v s := fun _ _ _ _ _ _ _ _ n h => RV.mono n h
def intOf : PyData → Rs Int
  | .int i => .ok i
  | _ => .stuck
/-- the ints' own operations -/
def iop (f : Int → Int → Rs PyData) : PyData → PyData → Rs PyData
  | .int a, .int b => f a b
  | _, _ => .stuck
theorem iop_ok {f : Int → Int → Rs PyData} {a b : PyData} {s : PyData} (h : iop f a b = .ok s) : ∃ i j, a = .int i ∧ b = .int j ∧ f i j = .ok s := by
  unfold iop at h
  split at h
  · exact ⟨_, _, rfl, rfl, h⟩
  · cases h
theorem iop_ne {f : Int → Int → Rs PyData} (hf : ∀ i j x, f i j ≠ .err x) : ∀ a b x, iop f a b ≠ .err x := fun a b x h => by
  unfold iop at h
  split at h
  · exact hf _ _ x h
  · cases h
theorem opsem_int {c : Pc} {C : Int → Int → Prop} {g : Int → Int → V} {f : Int → Int → Rs PyData} (hf : ∀ i j s, f i j = .ok s → C i j ∧ ∀ G, Dp c.K G (g i j) s) (hne : ∀ i j x, f i j ≠ .err x) : OpSem c (rI C g) (iop f) (RS c) where
  go := fun G H x y a b s e da db hs Q q => by
    obtain ⟨i, j, rfl, rfl, hs⟩ := iop_ok hs
    obtain ⟨h1, h2⟩ := hf i j s hs
    exact ⟨i, j, db_int da, db_int db, h1, q G H _ (Nx.refl e) (h2 G)⟩
  ne := iop_ne hne
theorem opsem_int0 {c : Pc} {g : Int → Int → V} {f : Int → Int → PyData} (hf : ∀ i j G, Dp c.K G (g i j) (f i j)) : OpSem c (rI0 g) (iop fun i j => .ok (f i j)) (RS c) where
  go := fun G H x y a b s e da db hs Q q => by
    obtain ⟨i, j, rfl, rfl, hs⟩ := iop_ok hs
    cases hs
    exact ⟨i, j, db_int da, db_int db, q G H _ (Nx.refl e) (hf i j G)⟩
  ne := iop_ne fun _ _ _ h => nomatch h
/-- how large a list may grow here -/
abbrev lim : Nat := 1000000
theorem lim_le {n : Nat} (h : n ≤ lim) : n ≤ sizeLine := Nat.le_trans h (by decide)
theorem lim_lt {n : Nat} (h : n < lim) : n < sizeLine := Nat.lt_of_lt_of_le h (by decide)
/-- + of ints, lists, tuples -/
def addD : PyData → PyData → Rs Sl
  | .int a, .int b => .ok (.sh (.int (a + b)))
  | .list xs, .list ys => if xs.length + ys.length ≤ lim then .ok (.ol (xs ++ ys)) else .stuck
  | .tuple xs, .tuple ys => if xs.length + ys.length ≤ lim then .ok (.sh (.tuple (xs ++ ys))) else .stuck
  | _, _ => .stuck
def rAddA (K : PySem.W.Frag) : R2 := fun x y H Q => (rI0 (fun i j => .int (i + j)) x y H Q ∨ (∃ a b xs ys, x = .ref a ∧ y = .ref b ∧ SqL K H a xs ∧ SqL K H b ys ∧ xs.length + ys.length ≤ sizeLine ∧ ∀ p, H p = none → Q (.ref p) (upd H p (.lst (xs ++ ys))))) ∨ rCatA K x y H Q
theorem opsem_add {c : Pc} : OpSem c (rAddA c.K) addD (RV c) where
  go := fun G H x y a b s e da db hs Q q => by
    unfold addD at hs
    split at hs
    · cases hs
      exact .inl (.inl ⟨_, _, db_int da, db_int db, q G H _ (Nx.refl e) (.int _)⟩)
    · split at hs
      · rename_i xs ys hl
        cases hs
        obtain ⟨p, vs, rfl, hv, av⟩ := db_list e da
        obtain ⟨r, ws, rfl, hw, aw⟩ := db_list e db
        exact .inl (.inr ⟨p, r, vs, ws, rfl, rfl, hv, hw, lim_le (by rw [DpAll.length av, DpAll.length aw]; exact hl), fun l hl =>
          q G _ _ (Nx.hid e hl) ⟨l, _, rfl, hl, e.back hl, upd_same, DpAll.append av aw⟩⟩)
      · cases hs
    · split at hs
      · rename_i xs ys hl
        cases hs
        obtain ⟨p, vs, rfl, hv, av⟩ := db_tup da
        obtain ⟨r, ws, rfl, hw, aw⟩ := db_tup db
        have lv := DpAll.length av
        have lw := DpAll.length aw
        refine .inr ⟨p, r, vs, ws, rfl, rfl, Ex.sqt e hv, Ex.sqt e hw, lim_le (by rw [lv, lw]; exact hl), fun z => ?_, fun z1 z2 => ?_, fun z1 z2 l hl => ?_⟩
        · subst z
          cases av
          exact q G H _ (Nx.refl e) (.tup hw aw)
        · subst z2
          cases aw
          rw [List.append_nil] at q
          exact q G H _ (Nx.refl e) (.tup hv av)
        · exact q _ _ _ (Nx.new e hl) (.tup (.inl (.inl upd_same)) (DpAll.ex (Ex.new (e.back hl)) (DpAll.append av aw)))
      · cases hs
    · cases hs
  ne := fun a b x h => by
    unfold addD at h
    split at h
    · cases h
    · split at h <;> cases h
    · split at h <;> cases h
    · cases h
end PF

namespace PF
open PySem L2

/-! ### operators of the machine -/
def mulOk (i j : Int) : Prop := i.natAbs.log2 < 64 ∨ j.natAbs.log2 < 64 ∨ i.natAbs.log2 + j.natAbs.log2 < 134217000
instance (i j : Int) : Decidable (mulOk i j) := by unfold mulOk; infer_instance
theorem mulOk.ok {i j : Int} (h : mulOk i j) : IntMulOk i j := by
  have b : ∀ x : Int, Builtin.Int.intBits x ≤ x.natAbs.log2 + 1 := fun x => by
    unfold Builtin.Int.intBits
    split <;> omega
  have h1 := b i
  have h2 := b j
  rcases h with h | h | h
  · exact IntMulOk.of_left (by omega)
  · exact IntMulOk.of_right (by omega)
  · have e : bitsLine = 134217728 := by decide
    unfold IntMulOk
    intro z
    rw [Bool.and_eq_true] at z
    have z2 := z.2
    unfold Builtin.Int.intTooBig at z2
    have z3 := of_decide_eq_true z2
    rw [e] at z3
    omega
def divOk (i j : Int) : Prop := j ≠ 0 ∧ Builtin.divisionGoesByPylong i j = false
instance (i j : Int) : Decidable (divOk i j) := by unfold divOk; infer_instance
def powOk (i j : Int) : Prop := 0 ≤ j ∧ j ≤ 1000000 ∧ i.natAbs < 2 ^ 64
instance (i j : Int) : Decidable (powOk i j) := by unfold powOk; infer_instance
section
variable {X : Cx}
theorem op_mulP : OpR X (binaryOp .Mult) (rI mulOk fun i j => .int (i * j)) := opI fun _ _ _ _ _ _ _ hc q => PyProof.Rows.mul_int q hc.ok
theorem op_divP : OpR X (binaryOp .FloorDiv) (rI divOk fun i j => .int (i.fdiv j)) := opI fun i j _ _ _ _ _ hc q => PyProof.Rows.floordiv_int hc.1 q (.inl hc.2)
def rCatL (K : PySem.W.Frag) : R2 := fun x y H Q => ∃ a b xs ys, x = .ref a ∧ y = .ref b ∧ SqL K H a xs ∧ SqL K H b ys ∧ xs.length + ys.length ≤ sizeLine ∧ ∀ p, H p = none → Q (.ref p) (upd H p (.lst (xs ++ ys)))
open PyProof.Rows in
theorem op_catL : OpR X (binaryOp .Add) (rCatL X.K) := by
  intro pins s σ H x y v u Q I rx ry h
  obtain ⟨a, b, xs, ys, rfl, rfl, ha, hb, hz, q⟩ := h
  cases rx
  cases ry
  obtain ⟨its, r1, ⟨⟨cls, dd, data, sl⟩, n, ho, hc, _, hd⟩, z1⟩ := I.list ha
  obtain ⟨its2, r2, ⟨⟨cls2, dd2, data2, sl2⟩, n2, ho2, hc2, _, hd2⟩, z2⟩ := I.list hb
  simp only at hc hd hc2 hd2
  subst hc hd hc2 hd2
  have e1 := r1.length
  have e2 := r2.length
  refine concat_meets ⟨_, ho, rfl⟩ ⟨_, ho2, rfl⟩ noFill_list_add seq_list_add PySem.F.slot_list_add PySem.F.entry_list_add (PySem.F.args_list_add_2 _ _)
    (list_addW a b its.toArray its2.toArray n n2 dd dd2 sl sl2 (by rw [List.size_toArray, List.size_toArray]; omega)) ⟨ho, ho2, ?_⟩
  have ea : its.toArray ++ its2.toArray = (its ++ its2).toArray := by simp
  rw [ea]
  exact ⟨.ref _, _, I.lnew (t' := s.toks) (r1.append r2) (by rw [List.length_append]; omega), rfl, q _ I.fresh⟩
theorem op_addA : OpR X (binaryOp .Add) (rAddA X.K) := (op_add.or op_catL).or op_catA
end

/-! ### ints -/
def subD : PyData → PyData → Rs PyData := iop fun i j => .ok (.int (i - j))
def mulD : PyData → PyData → Rs PyData := iop fun i j => if mulOk i j then .ok (.int (i * j)) else .stuck
def divD : PyData → PyData → Rs PyData := iop fun i j => if divOk i j then .ok (.int (i.fdiv j)) else .stuck
def modD : PyData → PyData → Rs PyData := iop fun i j => if j ≠ 0 then .ok (.int (i.fmod j)) else .stuck
def powD : PyData → PyData → Rs PyData := iop fun i j => if powOk i j then .ok (.int (i ^ j.toNat)) else .stuck
def ltD : PyData → PyData → Rs PyData := iop fun i j => .ok (.bool (decide (i < j)))
def leD : PyData → PyData → Rs PyData := iop fun i j => .ok (.bool (decide (i ≤ j)))
def gtD : PyData → PyData → Rs PyData := iop fun i j => .ok (.bool (decide (j < i)))
def geD : PyData → PyData → Rs PyData := iop fun i j => .ok (.bool (decide (j ≤ i)))
theorem opsem_if {c : Pc} {C : Int → Int → Prop} [∀ i j, Decidable (C i j)] {g : Int → Int → Int} : OpSem c (rI C fun i j => .int (g i j)) (iop fun i j => if C i j then .ok (.int (g i j)) else .stuck) (RS c) :=
  opsem_int (fun i j s h => by
    split at h
    · rename_i hc
      cases h
      exact ⟨hc, fun _ => .int _⟩
    · cases h) (fun i j x h => by split at h <;> cases h)
section
variable {c : Pc}
theorem opsem_sub : OpSem c (rI0 fun i j => .int (i - j)) subD (RS c) := opsem_int0 fun _ _ _ => .int _
theorem opsem_mul : OpSem c (rI mulOk fun i j => .int (i * j)) mulD (RS c) := opsem_if
theorem opsem_div : OpSem c (rI divOk fun i j => .int (i.fdiv j)) divD (RS c) := opsem_if
theorem opsem_mod : OpSem c (rI (fun _ j => j ≠ 0) fun i j => .int (i.fmod j)) modD (RS c) := opsem_if (C := fun _ j => j ≠ 0)
theorem opsem_pow : OpSem c (rI CPow fun i j => .int (i ^ j.toNat)) powD (RS c) := opsem_if (C := powOk)
theorem opsem_lt : OpSem c (rI0 fun i j => .bl (decide (i < j))) ltD (RS c) := opsem_int0 fun _ _ _ => .bl _
theorem opsem_le : OpSem c (rI0 fun i j => .bl (decide (i ≤ j))) leD (RS c) := opsem_int0 fun _ _ _ => .bl _
theorem opsem_gt : OpSem c (rI0 fun i j => .bl (decide (j < i))) gtD (RS c) := opsem_int0 fun _ _ _ => .bl _
theorem opsem_ge : OpSem c (rI0 fun i j => .bl (decide (j ≤ i))) geD (RS c) := opsem_int0 fun _ _ _ => .bl _
end
/-! ### == and in, of data -/
def eqD (a b : PyData) : Rs PyData := if SeqAt.shaped a = true ∧ SeqAt.shaped b = true then .ok (.bool (PyData.eqv a b)) else .stuck
def neD (a b : PyData) : Rs PyData := if SeqAt.shaped a = true ∧ SeqAt.shaped b = true then .ok (.bool (!PyData.eqv a b)) else .stuck
def inD (a b : PyData) : Rs PyData := match b with
  | .list ds => if SeqAt.shaped a = true ∧ SeqAt.shaped (.list ds) = true then .ok (.bool (ds.any fun z => PyData.eqv z a)) else .stuck
  | _ => .stuck
def ninD (a b : PyData) : Rs PyData := match b with
  | .list ds => if SeqAt.shaped a = true ∧ SeqAt.shaped (.list ds) = true then .ok (.bool (!ds.any fun z => PyData.eqv z a)) else .stuck
  | _ => .stuck
def isNo : PyData → Bool
  | .none => true
  | _ => false
def isND (a b : PyData) : Rs PyData := match b with
  | .none => .ok (.bool (isNo a))
  | _ => .stuck
def notND (a b : PyData) : Rs PyData := match b with
  | .none => .ok (.bool (!isNo a))
  | _ => .stuck
section
variable {c : Pc}
theorem opsem_eq : OpSem c (rEqD c.K) eqD (RS c) where
  go := fun G H x y a b s e da db hs Q q => by
    unfold eqD at hs
    split at hs
    · rename_i h
      cases hs
      exact ⟨a, b, db_h e da, db_h e db, h.1, h.2, q G H _ (Nx.refl e) (.bl _)⟩
    · cases hs
  ne := fun a b x h => by unfold eqD at h; split at h <;> cases h
theorem opsem_ne : OpSem c (rNeD c.K) neD (RS c) where
  go := fun G H x y a b s e da db hs Q q => by
    unfold neD at hs
    split at hs
    · rename_i h
      cases hs
      exact ⟨a, b, db_h e da, db_h e db, h.1, h.2, q G H _ (Nx.refl e) (.bl _)⟩
    · cases hs
  ne := fun a b x h => by unfold neD at h; split at h <;> cases h
theorem opsem_in : OpSem c (rInD c.K) inD (RS c) where
  go := fun G H x y a b s e da db hs Q q => by
    unfold inD at hs
    split at hs
    · rename_i ds
      split at hs
      · rename_i h
        cases hs
        exact ⟨a, ds, db_h e da, db_h e db, h.1, h.2, q G H _ (Nx.refl e) (.bl _)⟩
      · cases hs
    · cases hs
  ne := fun a b x h => by
    unfold inD at h
    split at h
    · split at h <;> cases h
    · cases h
theorem opsem_nin : OpSem c (rNotInD c.K) ninD (RS c) where
  go := fun G H x y a b s e da db hs Q q => by
    unfold ninD at hs
    split at hs
    · rename_i ds
      split at hs
      · rename_i h
        cases hs
        exact ⟨a, ds, db_h e da, db_h e db, h.1, h.2, q G H _ (Nx.refl e) (.bl _)⟩
      · cases hs
    · cases hs
  ne := fun a b x h => by
    unfold ninD at h
    split at h
    · split at h <;> cases h
    · cases h
theorem db_isNo {K : PySem.W.Frag} {G H : Hp} {v : V} {d : PyData} (h : Db K G H v d) : decide (v = .non) = isNo d := by
  rcases h with h | ⟨a, xs, ds, rfl, rfl, _⟩
  · cases h <;> rfl
  · rfl
theorem opsem_isN : OpSem c (fun x y H Q => y = .non ∧ Q (.bl (decide (x = .non))) H) isND (RS c) where
  go := fun G H x y a b s e da db hs Q q => by
    unfold isND at hs
    split at hs
    · cases hs
      exact ⟨db_non db, q G H _ (Nx.refl e) (by rw [db_isNo da]; exact .bl _)⟩
    · cases hs
  ne := fun a b x h => by unfold isND at h; split at h <;> cases h
theorem opsem_notN : OpSem c (fun x y H Q => y = .non ∧ Q (.bl (!decide (x = .non))) H) notND (RS c) where
  go := fun G H x y a b s e da db hs Q q => by
    unfold notND at hs
    split at hs
    · cases hs
      exact ⟨db_non db, q G H _ (Nx.refl e) (by rw [db_isNo da]; exact .bl _)⟩
    · cases hs
  ne := fun a b x h => by unfold notND at h; split at h <;> cases h
end

/-! ### tests -/
def boolOf : PyData → Rs Bool
  | .bool b => .ok b
  | _ => .stuck
def fB (F : Env → Rs PyData) : Env → Rs Bool := fun ρ => F ρ >>= boolOf
theorem sem_test {c : Pc} {E : XK} {t : TE} {F : Env → Rs PyData} (h : SemG c E t F (RS c)) : SemG c E (fun σ H Q => t σ H fun x H1 => ∃ k, x = .bl k ∧ Q k H1) (fB F) RT := by
  intro G H ρ σ rep hns Q ok er
  refine h.use rep hns er fun a ea e1 G' H' v n _ q hk _ => ?_
  cases a with
  | bool b => exact ⟨b, Dp.bl_v q, ok b e1 G' H' b n rfl⟩
  | none => exact absurd rfl hk
  | int i => exact absurd rfl hk
  | str i => exact absurd rfl hk
  | list i => exact absurd rfl hk
  | tuple i => exact absurd rfl hk
  | dict i => exact absurd rfl hk
def fNot (F : Env → Rs Bool) : Env → Rs Bool := fun ρ => F ρ >>= fun b => .ok (!b)
def fAnd (F G : Env → Rs Bool) : Env → Rs Bool := fun ρ => F ρ >>= fun b => if b = true then G ρ else .ok false
def fOr (F G : Env → Rs Bool) : Env → Rs Bool := fun ρ => F ρ >>= fun b => if b = true then .ok true else G ρ
structure JW (ca : Nat → Addr) (X : Cx) (E : XK) (e : Expr) (t : TT) (F : Env → Rs Bool) : Prop where
  pw : PW X e t
  sem : SemG ⟨X.K, ca⟩ E t F RT
section
variable {ca : Nat → Addr} {X : Cx} {E : XK} {a b e : Expr} {ta tb : TT} {te tf : TE} {pos : Pos} {rest : List Expr}
theorem jt_val {F : Env → Rs PyData} (h : JS ca X E e te F) (he : ∀ whole, isTrue e X.env whole = (do let v ← whole; standAt e.pos; holding [v] (truthy v)) := by intro _; rfl) : JT ca X E e (tB te) (fB F) :=
  ⟨pt_val h.pe he, sem_test h.sem⟩
theorem jt_not {F : Env → Rs Bool} (h : JT ca X E a ta F) : JT ca X E (.UnaryOp .Not a pos) (tNot ta) (fNot F) :=
  ⟨pt_not h.pt, fun G H ρ σ rep hns Q ok er => h.sem.use rep hns er fun x ea e1 G' H' v n _ q hk _ => by
    cases q
    exact ok _ e1 G' H' _ n rfl⟩
theorem jw_and1 {F : Env → Rs Bool} (h : JT ca X E a ta F) : JW ca X E (.BoolOp .And [a] pos) ta F := ⟨pw_and1 h.pt, h.sem⟩
theorem jw_or1 {F : Env → Rs Bool} (h : JT ca X E a ta F) : JW ca X E (.BoolOp .Or [a] pos) ta F := ⟨pw_or1 h.pt, h.sem⟩
theorem jw_and {F F' : Env → Rs Bool} (h : JT ca X E a ta F) (h' : JW ca X E (.BoolOp .And (b :: rest) pos) tb F') : JW ca X E (.BoolOp .And (a :: b :: rest) pos) (tAnd ta tb) (fAnd F F') :=
  ⟨pw_and h.pt h'.pw, fun G H ρ σ rep hns Q ok er => h.sem.use rep hns er fun x ea e1 G' H' v n r q hk er' => by
    cases q
    cases x with
    | true =>
      show tb σ H' Q
      refine h'.sem G' H' ρ σ r hk Q (fun y ey G2 H2 u n2 q2 => ok y (e1.trans ey) G2 H2 u (n.trans n2) q2) er'
    | false =>
      show Q false H'
      exact ok false e1 G' H' false n rfl⟩
theorem jw_or {F F' : Env → Rs Bool} (h : JT ca X E a ta F) (h' : JW ca X E (.BoolOp .Or (b :: rest) pos) tb F') : JW ca X E (.BoolOp .Or (a :: b :: rest) pos) (tOr ta tb) (fOr F F') :=
  ⟨pw_or h.pt h'.pw, fun G H ρ σ rep hns Q ok er => h.sem.use rep hns er fun x ea e1 G' H' v n r q hk er' => by
    cases q
    cases x with
    | false =>
      show tb σ H' Q
      refine h'.sem G' H' ρ σ r hk Q (fun y ey G2 H2 u n2 q2 => ok y (e1.trans ey) G2 H2 u (n.trans n2) q2) er'
    | true =>
      show Q true H'
      exact ok true e1 G' H' true n rfl⟩
theorem jt_w {F : Env → Rs Bool} (h : JW ca X E a ta F) : JT ca X E a ta F := ⟨h.pw.pt, h.sem⟩
/-- as values -/
def fAndV (F G : Env → Rs PyData) : Env → Rs PyData := fun ρ => F ρ >>= fun a => boolOf a >>= fun b => if b = true then G ρ else .ok (.bool false)
def fOrV (F G : Env → Rs PyData) : Env → Rs PyData := fun ρ => F ρ >>= fun a => boolOf a >>= fun b => if b = true then .ok (.bool true) else G ρ
def fNotV (F : Env → Rs PyData) : Env → Rs PyData := fun ρ => F ρ >>= fun a => boolOf a >>= fun b => .ok (.bool (!b))
theorem boolOf_ok {a : PyData} {β : Type} {k : Bool → Rs β} (h : (boolOf a >>= k) ≠ .stuck) : ∃ b, a = .bool b := by
  cases a with
  | bool b => exact ⟨b, rfl⟩
  | none => exact absurd rfl h
  | int i => exact absurd rfl h
  | str i => exact absurd rfl h
  | list i => exact absurd rfl h
  | tuple i => exact absurd rfl h
  | dict i => exact absurd rfl h
theorem js_one {op : BoolOp} {F : Env → Rs PyData} (h : JS ca X E a te F) : JS ca X E (.BoolOp op [a] pos) te F := ⟨pe_one h.pe, h.sem⟩
theorem js_and {F F' : Env → Rs PyData} (h : JS ca X E a te F) (h' : JS ca X E (.BoolOp .And (b :: rest) pos) tf F') : JS ca X E (.BoolOp .And (a :: b :: rest) pos) (tAndV te tf) (fAndV F F') :=
  ⟨pe_and h.pe h'.pe, fun G H ρ σ rep hns Q ok er => h.sem.use rep hns er fun x ea e1 G' H' v n r q hk er' => by
    obtain ⟨k, rfl⟩ := boolOf_ok hk
    refine ⟨k, Dp.bl_v q, ?_⟩
    cases k with
    | true =>
      show tf σ H' Q
      exact h'.sem G' H' ρ σ r hk Q (fun y ey G2 H2 u n2 q2 => ok y (e1.trans ey) G2 H2 u (n.trans n2) q2) er'
    | false =>
      show Q (.bl false) H'
      exact ok (.bool false) e1 G' H' _ n (.bl _)⟩
theorem js_or {F F' : Env → Rs PyData} (h : JS ca X E a te F) (h' : JS ca X E (.BoolOp .Or (b :: rest) pos) tf F') : JS ca X E (.BoolOp .Or (a :: b :: rest) pos) (tOrV te tf) (fOrV F F') :=
  ⟨pe_or h.pe h'.pe, fun G H ρ σ rep hns Q ok er => h.sem.use rep hns er fun x ea e1 G' H' v n r q hk er' => by
    obtain ⟨k, rfl⟩ := boolOf_ok hk
    refine ⟨k, Dp.bl_v q, ?_⟩
    cases k with
    | false =>
      show tf σ H' Q
      exact h'.sem G' H' ρ σ r hk Q (fun y ey G2 H2 u n2 q2 => ok y (e1.trans ey) G2 H2 u (n.trans n2) q2) er'
    | true =>
      show Q (.bl true) H'
      exact ok (.bool true) e1 G' H' _ n (.bl _)⟩
theorem js_not {F : Env → Rs PyData} (h : JS ca X E a te F) : JS ca X E (.UnaryOp .Not a pos) (tNotV te) (fNotV F) :=
  ⟨pe_not h.pe, fun G H ρ σ rep hns Q ok er => h.sem.use rep hns er fun x ea e1 G' H' v n r q hk er' => by
    obtain ⟨k, rfl⟩ := boolOf_ok hk
    exact ⟨k, Dp.bl_v q, ok (.bool (!k)) e1 G' H' _ n (.bl _)⟩⟩
end

/-! ### the operators as judgements -/
section
variable {ca : Nat → Addr} {X : Cx} {E : XK} {a b : Expr} {ta tb : TE} {Fa Fb : Env → Rs PyData} {pos : Pos}
theorem js_bin {op : Operator} {r : R2} {f : PyData → PyData → Rs PyData} (ho : OpR X (binaryOp op) r) (hs : OpSem ⟨X.K, ca⟩ r f (RS ⟨X.K, ca⟩)) (ha : JB ca X E a ta Fa) (hb : JB ca X E b tb Fb) : JS ca X E (.BinOp a op b pos) (tOp r ta tb) (fOp f Fa Fb) :=
  ⟨pe_op ho ha.pe hb.pe, sem_op hs RS.mono ha.sem hb.sem⟩
theorem jv_add (ha : JB ca X E a ta Fa) (hb : JB ca X E b tb Fb) : JV ca X E (.BinOp a .Add b pos) (tOp (rAddA X.K) ta tb) (fOp addD Fa Fb) :=
  ⟨pe_op op_addA ha.pe hb.pe, sem_op opsem_add RV.mono' ha.sem hb.sem⟩
theorem js_sub (ha : JB ca X E a ta Fa) (hb : JB ca X E b tb Fb) : JS ca X E (.BinOp a .Sub b pos) (tOp (rI0 fun i j => .int (i - j)) ta tb) (fOp subD Fa Fb) := js_bin op_sub opsem_sub ha hb
theorem js_mul (ha : JB ca X E a ta Fa) (hb : JB ca X E b tb Fb) : JS ca X E (.BinOp a .Mult b pos) (tOp (rI mulOk fun i j => .int (i * j)) ta tb) (fOp mulD Fa Fb) := js_bin op_mulP opsem_mul ha hb
theorem js_div (ha : JB ca X E a ta Fa) (hb : JB ca X E b tb Fb) : JS ca X E (.BinOp a .FloorDiv b pos) (tOp (rI divOk fun i j => .int (i.fdiv j)) ta tb) (fOp divD Fa Fb) := js_bin op_divP opsem_div ha hb
theorem js_mod (ha : JB ca X E a ta Fa) (hb : JB ca X E b tb Fb) : JS ca X E (.BinOp a .Mod b pos) (tOp (rI (fun _ j => j ≠ 0) fun i j => .int (i.fmod j)) ta tb) (fOp modD Fa Fb) := js_bin op_modN opsem_mod ha hb
theorem js_pow (ha : JB ca X E a ta Fa) (hb : JB ca X E b tb Fb) : JS ca X E (.BinOp a .Pow b pos) (tOp (rI CPow fun i j => .int (i ^ j.toNat)) ta tb) (fOp powD Fa Fb) := js_bin op_pow opsem_pow ha hb
theorem js_cmp {op : CmpOp} {r : R2} {f : PyData → PyData → Rs PyData} (ho : OpR X (compareOp op) r) (hs : OpSem ⟨X.K, ca⟩ r f (RS ⟨X.K, ca⟩)) (hm : behindInMarks op b = false) (ha : JB ca X E a ta Fa) (hb : JB ca X E b tb Fb) : JS ca X E (.Compare a [op] [b] pos) (tOp r ta tb) (fOp f Fa Fb) :=
  ⟨pe_cmpR ho ha.pe hb.pe hm, sem_op hs RS.mono ha.sem hb.sem⟩
theorem jt_cmp {op : CmpOp} {r : R2} {f : PyData → PyData → Rs PyData} (ho : OpR X (compareOp op) r) (hs : OpSem ⟨X.K, ca⟩ r f (RS ⟨X.K, ca⟩)) (hm : behindInMarks op b = false) (ha : JB ca X E a ta Fa) (hb : JB ca X E b tb Fb) : JT ca X E (.Compare a [op] [b] pos) (tTest (tOp r ta tb)) (fB (fOp f Fa Fb)) :=
  ⟨pt_cmpR ho ha.pe hb.pe hm, sem_test (sem_op hs RS.mono ha.sem hb.sem)⟩
/-- -a -/
def negD : PyData → Rs PyData
  | .int i => .ok (.int (-i))
  | _ => .stuck
def fUn {α β : Type} (f : α → Rs β) (F : Env → Rs α) : Env → Rs β := fun ρ => F ρ >>= f
theorem js_neg (ha : JB ca X E a ta Fa) : JS ca X E (.UnaryOp .USub a pos) (tUn (rU fun i => .int (-i)) ta) (fUn negD Fa) :=
  ⟨pe_un un_neg ha.pe, fun G H ρ σ rep hns Q ok er => ha.sem.use rep hns er fun x ea e1 G' H' v n r q hk er' => by
    cases x with
    | int i => exact ⟨i, db_int q, ok _ e1 G' H' _ n (.int _)⟩
    | none => exact absurd rfl hk
    | bool i => exact absurd rfl hk
    | str i => exact absurd rfl hk
    | list i => exact absurd rfl hk
    | tuple i => exact absurd rfl hk
    | dict i => exact absurd rfl hk⟩
end
/-! ### arguments, displays -/
def fNil : Env → Rs (List PyData) := fun _ => .ok []
def fCons (F : Env → Rs PyData) (Fs : Env → Rs (List PyData)) : Env → Rs (List PyData) := fun ρ => F ρ >>= fun d => Fs ρ >>= fun ds => .ok (d :: ds)
def lstD (ds : List PyData) : Rs Sl := if ds.length ≤ lim then .ok (.ol ds) else .stuck
def tupD (ds : List PyData) : Rs PyData := if ds.length ≤ lim then .ok (.tuple ds) else .stuck
section
variable {ca : Nat → Addr} {X : Cx} {E : XK} {e : Expr} {es : List Expr} {te : TE} {t : TA} {F : Env → Rs PyData} {Fs : Env → Rs (List PyData)} {pos : Pos}
theorem ja_nil : JA ca X E [] tNil fNil := ⟨pa_nil, fun G H ρ σ rep hns Q ok er => ok [] rfl G H [] (Nx.refl rep.gh) .nil⟩
theorem ja_cons (h : JS ca X E e te F) (h' : JA ca X E es t Fs) (hs : starEach (e :: es) X.env = (false, eval e X.env) :: starEach es X.env := by rfl) : JA ca X E (e :: es) (tCons te t) (fCons F Fs) :=
  ⟨pa_cons h.pe h'.pa hs, fun G H ρ σ rep hns Q ok er => h.sem.use rep hns er fun x ea e1 G1 H1 v n1 r1 q1 hk1 er1 => h'.sem.use r1 hk1 er1 fun xs exs e2 G2 H2 vs n2 r2 q2 hk2 er2 =>
    ok (x :: xs) (e1.trans e2) G2 H2 _ (n1.trans n2) (.cons (Dp.ex n2.g q1) q2)⟩
theorem jv_lst (h : JA ca X E es t Fs) : JV ca X E (.List es pos) (tLst t) (fUn lstD Fs) :=
  ⟨pe_lst h.pa, fun G H ρ σ rep hns Q ok er => h.sem.use rep hns er fun x ea e1 G' H' v n r q hk er' => by
    by_cases hl : x.length ≤ lim
    · have e2 : lstD x = .ok (.ol x) := if_pos hl
      exact ⟨lim_le (by rw [DpAll.length q]; exact hl), fun p hp => ok (.ol x) (e1.trans e2) G' _ _ (n.trans (Nx.hid n.gh hp)) ⟨p, v, rfl, n.h.back hp, n.gh.back hp, upd_same, q⟩⟩
    · exact absurd (if_neg hl) hk⟩
theorem js_tup {x1} (h : JA ca X E es t Fs) : JS ca X E (.Tuple es x1 pos) (tTup t) (fUn tupD Fs) :=
  ⟨pe_tup h.pa, fun G H ρ σ rep hns Q ok er => h.sem.use rep hns er fun x ea e1 G' H' v n r q hk er' => by
    by_cases hl : x.length ≤ lim
    · have e2 : tupD x = .ok (.tuple x) := if_pos hl
      refine ⟨lim_le (by rw [DpAll.length q]; exact hl), fun p hp => ok (.tuple x) (e1.trans e2) (upd G' p (.tup v)) _ _ (n.trans (Nx.new n.gh hp)) (.tup (.inl (.inl upd_same)) (DpAll.ex (Ex.new (n.gh.back hp)) q))⟩
    · exact absurd (if_neg hl) hk⟩
end
end PF

namespace PF
open PySem L2

/-! ### items and slices -/
def getP (ds : List PyData) (i : Int) : Rs PyData := match atI ds i with
  | some d => .ok d
  | none => .stuck
def ixD (a b : PyData) : Rs PyData := match a, b with
  | .list ds, .int i => getP ds i
  | .tuple ds, .int i => getP ds i
  | _, _ => .stuck
theorem at_dp {K : PySem.W.Frag} {G : Hp} {xs : List V} {ds : List PyData} {i : Int} {d : PyData} (h : DpAll K G xs ds) (e : getP ds i = .ok d) : ∃ v, atI xs i = some v ∧ Dp K G v d := by
  unfold getP at e
  split at e
  · rename_i z hz
    cases e
    unfold atI at hz ⊢
    rw [DpAll.length h]
    cases hn : ixN ds.length i with
    | none => rw [hn] at hz; cases hz
    | some j =>
      rw [hn] at hz
      rw [Option.bind_some] at hz ⊢
      exact DpAll.getD h hz
  · cases e
theorem getP_ne {ds : List PyData} {i : Int} {x : Exn} : getP ds i ≠ .err x := by unfold getP; split <;> exact fun h => nomatch h
theorem opsem_ix {c : Pc} : OpSem c (rIx c.K) ixD (RS c) where
  go := fun G H x y a b s e da db hs Q q => by
    unfold ixD at hs
    split at hs
    · obtain ⟨p, xs, rfl, hx, ax⟩ := db_list e da
      obtain ⟨v, hv, dv⟩ := at_dp ax hs
      exact .inl ⟨p, xs, _, v, rfl, db_int db, hx, hv, q G H v (Nx.refl e) dv⟩
    · obtain ⟨p, xs, rfl, hx, ax⟩ := db_tup da
      obtain ⟨v, hv, dv⟩ := at_dp ax hs
      exact .inr (.inl ⟨p, xs, _, v, rfl, db_int db, Ex.sqt e hx, hv, q G H v (Nx.refl e) dv⟩)
    · cases hs
  ne := fun a b x h => by
    unfold ixD at h
    split at h
    · exact getP_ne h
    · exact getP_ne h
    · cases h
def cutP (ds : List PyData) (lo hi : Option Int) : List PyData := (ds.drop (HT.sIx ds.length 0 lo)).take (HT.sIx ds.length ds.length hi - HT.sIx ds.length 0 lo)
theorem cut_dp {K : PySem.W.Frag} {G : Hp} {xs : List V} {ds : List PyData} (lo hi : Option Int) (h : DpAll K G xs ds) : DpAll K G (cutV xs lo hi) (cutP ds lo hi) := by
  unfold cutV cutP
  rw [DpAll.length h]
  exact DpAll.take _ (DpAll.drop _ h)
def slD (a : PyData) (lo hi : Option Int) : Rs Sl := match a with
  | .list ds => .ok (.ol (cutP ds lo hi))
  | .tuple ds => .ok (.sh (.tuple (cutP ds lo hi)))
  | _ => .stuck
def rSlAll (K : PySem.W.Frag) : V → Option Int → Option Int → Hp → VK → Prop := fun x lo hi H Q => rSlL K x lo hi H Q ∨ rSlA K x lo hi H Q
def fSl (F : Env → Rs PyData) (Fl Fh : Env → Rs (Option Int)) : Env → Rs Sl := fun ρ => F ρ >>= fun a => Fl ρ >>= fun l => Fh ρ >>= fun h => slD a l h
def fNone : Env → Rs (Option Int) := fun _ => .ok none
def fSome (F : Env → Rs PyData) : Env → Rs (Option Int) := fun ρ => F ρ >>= fun d => intOf d >>= fun i => .ok (some i)
theorem intOf_ok {a : PyData} {β : Type} {k : Int → Rs β} (h : (intOf a >>= k) ≠ .stuck) : ∃ b, a = .int b := by
  cases a with
  | int b => exact ⟨b, rfl⟩
  | none => exact absurd rfl h
  | bool i => exact absurd rfl h
  | str i => exact absurd rfl h
  | list i => exact absurd rfl h
  | tuple i => exact absurd rfl h
  | dict i => exact absurd rfl h
section
variable {ca : Nat → Addr} {X : Cx} {E : XK} {a b : Expr} {ta tb : TE} {Fa Fb : Env → Rs PyData} {pos p2 : Pos} {lo hi : Option Expr} {tl th : TO} {Fl Fh : Env → Rs (Option Int)}
theorem js_ix (ha : JB ca X E a ta Fa) (hb : JB ca X E b tb Fb) (hs : PlainIx b := by exact fun _ _ => rfl) : JS ca X E (.Subscript a b pos) (tOp (rIx X.K) ta tb) (fOp ixD Fa Fb) :=
  ⟨pe_ix ix_seq ha.pe hb.pe hs, sem_op opsem_ix RS.mono ha.sem hb.sem⟩
theorem jo_none : JO ca X E none tNoPart fNone := ⟨po_none, fun G H ρ σ rep hns Q ok er => ok none rfl G H none (Nx.refl rep.gh) rfl⟩
theorem jo_some (ha : JB ca X E a ta Fa) : JO ca X E (some a) (tPart ta) (fSome Fa) :=
  ⟨po_some ha.pe, fun G H ρ σ rep hns Q ok er => ha.sem.use rep hns er fun x ea e1 G' H' v n r q hk er' => by
    obtain ⟨i, rfl⟩ := intOf_ok hk
    exact ⟨i, db_int q, ok (some i) e1 G' H' _ n rfl⟩⟩
theorem jv_slice (ha : JB ca X E a ta Fa) (hl : JO ca X E lo tl Fl) (hh : JO ca X E hi th Fh) : JV ca X E (.Subscript a (.Slice lo hi none p2) pos) (tSl (rSlAll X.K) ta tl th) (fSl Fa Fl Fh) :=
  ⟨pe_slice (sl_list.or sl_tupA) ha.pe hl.po hh.po, fun G H ρ σ rep hns Q ok er => ha.sem.use rep hns er fun x ea e1 G1 H1 v n1 r1 q1 hk1 er1 => hl.sem.use r1 hk1 er1 fun l el e2 G2 H2 vl n2 r2 q2 hk2 er2 => hh.sem.use r2 hk2 er2 fun h eh e3 G3 H3 vh n3 r3 q3 hk3 er3 => by
    cases q2
    cases q3
    have q := db_nx (n2.trans n3) q1
    have ee := (e1.trans e2).trans e3
    have nn := (n1.trans n2).trans n3
    cases x with
    | list ds =>
      obtain ⟨p, xs, rfl, hx, ax⟩ := db_list n3.gh q
      exact .inl ⟨p, xs, rfl, hx, fun p' hp => ok _ ee G3 _ _ (nn.trans (Nx.hid n3.gh hp)) ⟨p', _, rfl, nn.h.back hp, n3.gh.back hp, upd_same, cut_dp _ _ ax⟩⟩
    | tuple ds =>
      obtain ⟨p, xs, rfl, hx, ax⟩ := db_tup q
      have le := DpAll.length ax
      refine .inr ⟨p, xs, rfl, Ex.sqt n3.gh hx, fun hw => ?_, fun hw p' hp => ok _ ee (upd G3 p' (.tup (cutV xs l h))) _ _ (nn.trans (Nx.new n3.gh hp)) (.tup (.inl (.inl upd_same)) (DpAll.ex (Ex.new (n3.gh.back hp)) (cut_dp _ _ ax)))⟩
      refine ok _ ee G3 H3 _ nn ?_
      have e0 : cutP ds l h = ds := by
        rw [le] at hw
        unfold cutP
        rw [hw.1, hw.2, List.drop_zero, Nat.sub_zero, List.take_length]
      rw [e0]
      exact .tup hx ax
    | none => exact absurd rfl hk3
    | bool i => exact absurd rfl hk3
    | int i => exact absurd rfl hk3
    | str i => exact absurd rfl hk3
    | dict i => exact absurd rfl hk3⟩
end

/-! ### calls of built-ins by values -/
structure CallSem {α : Type} (c : Pc) (r : List V → Hp → VK → Prop) (f : PyData → Rs α) (R : Rel V α) : Prop where
  go : ∀ G H x a s, Ex G H → Db c.K G H x a → f a = .ok s → ∀ Q : VK, (∀ G' H' v, Nx G H G' H' → R G H G' H' v s → Q v H') → r [x] H Q
  ne : ∀ a x, f a ≠ .err x
theorem sem_call1 {α : Type} {c : Pc} {E : XK} {r : List V → Hp → VK → Prop} {f : PyData → Rs α} {R : Rel V α} {ta : TE} {Fa : Env → Rs PyData} (hr : CallSem c r f R)
    (hR : ∀ G H G1 H1 G' H' v s, Nx G H G1 H1 → R G1 H1 G' H' v s → R G H G' H' v s) (ha : SemG c E ta Fa (RB c)) : SemG c E (tCB r (tCons ta tNil)) (fUn f Fa) R := by
  intro G H ρ σ rep hns Q ok er
  refine ha.use rep hns er fun a ea e1 G1 H1 x n1 r1 q1 h1 er1 => ?_
  cases hf : f a with
  | stuck => exact absurd hf h1
  | err z => exact absurd hf (hr.ne a z)
  | ok s =>
    refine hr.go G1 H1 x a s n1.gh q1 hf Q fun G' H' v n3 q3 => ?_
    refine ok s ?_ G' H' v (n1.trans n3) (hR _ _ _ _ _ _ _ _ n1 q3)
    unfold fUn
    rw [e1, hf]
structure CallSem2 {α : Type} (c : Pc) (r : List V → Hp → VK → Prop) (f : PyData → PyData → Rs α) (R : Rel V α) : Prop where
  go : ∀ G H x y a b s, Ex G H → Db c.K G H x a → Db c.K G H y b → f a b = .ok s → ∀ Q : VK, (∀ G' H' v, Nx G H G' H' → R G H G' H' v s → Q v H') → r [x, y] H Q
  ne : ∀ a b x, f a b ≠ .err x
theorem sem_call2 {α : Type} {c : Pc} {E : XK} {r : List V → Hp → VK → Prop} {f : PyData → PyData → Rs α} {R : Rel V α} {ta tb : TE} {Fa Fb : Env → Rs PyData} (hr : CallSem2 c r f R)
    (hR : ∀ G H G1 H1 G' H' v s, Nx G H G1 H1 → R G1 H1 G' H' v s → R G H G' H' v s) (ha : SemG c E ta Fa (RB c)) (hb : SemG c E tb Fb (RB c)) : SemG c E (tCB r (tCons ta (tCons tb tNil))) (fOp f Fa Fb) R := by
  intro G H ρ σ rep hns Q ok er
  refine ha.use rep hns er fun a ea e1 G1 H1 x n1 r1 q1 h1 er1 => ?_
  refine hb.use r1 h1 er1 fun b eb e2 G2 H2 y n2 r2 q2 h2 er2 => ?_
  cases hf : f a b with
  | stuck => exact absurd hf h2
  | err z => exact absurd hf (hr.ne a b z)
  | ok s =>
    refine hr.go G2 H2 x y a b s n2.gh (db_nx n2 q1) q2 hf Q fun G' H' v n3 q3 => ?_
    refine ok s ?_ G' H' v ((n1.trans n2).trans n3) (hR _ _ _ _ _ _ _ _ (n1.trans n2) q3)
    unfold fOp
    rw [e1, e2, hf]
def lenD : PyData → Rs PyData
  | .list ds => .ok (.int ds.length)
  | .tuple ds => .ok (.int ds.length)
  | _ => .stuck
def absD : PyData → Rs PyData
  | .int i => .ok (.int (if i < 0 then -i else i))
  | _ => .stuck
def int1D : PyData → Rs PyData
  | .int i => .ok (.int i)
  | .bool b => .ok (.int (if b then 1 else 0))
  | _ => .stuck
def listD : PyData → Rs Sl
  | .list ds => .ok (.ol ds)
  | .tuple ds => .ok (.ol ds)
  | _ => .stuck
def tupleD : PyData → Rs PyData
  | .list ds => .ok (.tuple ds)
  | .tuple ds => .ok (.tuple ds)
  | _ => .stuck
def min2D : PyData → PyData → Rs PyData := iop fun i j => .ok (.int (if j < i then j else i))
def max2D : PyData → PyData → Rs PyData := iop fun i j => .ok (.int (if j > i then j else i))
section
variable {c : Pc}
theorem callsem_len : CallSem c (fun xs H Q => ∃ p ys, xs = [.ref p] ∧ (SqL c.K H p ys ∨ SqT c.K H p ys) ∧ Q (.int ys.length) H) lenD (RS c) where
  go := fun G H x a s e da hs Q q => by
    unfold lenD at hs
    split at hs
    · cases hs
      obtain ⟨p, xs, rfl, hx, ax⟩ := db_list e da
      exact ⟨p, xs, rfl, .inl hx, q G H _ (Nx.refl e) (by rw [DpAll.length ax]; exact .int _)⟩
    · cases hs
      obtain ⟨p, xs, rfl, hx, ax⟩ := db_tup da
      exact ⟨p, xs, rfl, .inr (Ex.sqt e hx), q G H _ (Nx.refl e) (by rw [DpAll.length ax]; exact .int _)⟩
    · cases hs
  ne := fun a x h => by unfold lenD at h; split at h <;> cases h
theorem callsem_abs : CallSem c (fun xs H Q => ∃ i, xs = [.int i] ∧ Q (.int (if i < 0 then -i else i)) H) absD (RS c) where
  go := fun G H x a s e da hs Q q => by
    unfold absD at hs
    split at hs
    · cases hs
      exact ⟨_, by rw [db_int da], q G H _ (Nx.refl e) (.int _)⟩
    · cases hs
  ne := fun a x h => by unfold absD at h; split at h <;> cases h
theorem callsem_int : CallSem c (fun xs H Q => (∃ i, xs = [.int i] ∧ Q (.int i) H) ∨ ∃ k, xs = [.bl k] ∧ Q (.int (if k then 1 else 0)) H) int1D (RS c) where
  go := fun G H x a s e da hs Q q => by
    unfold int1D at hs
    split at hs
    · cases hs
      exact .inl ⟨_, by rw [db_int da], q G H _ (Nx.refl e) (.int _)⟩
    · cases hs
      exact .inr ⟨_, by rw [db_bl da], q G H _ (Nx.refl e) (.int _)⟩
    · cases hs
  ne := fun a x h => by unfold int1D at h; split at h <;> cases h
theorem callsem_list : CallSem c (fun xs H Q => ∃ p ys, xs = [.ref p] ∧ (SqL c.K H p ys ∨ SqT c.K H p ys) ∧ ∀ l, H l = none → Q (.ref l) (upd H l (.lst ys))) listD (RV c) where
  go := fun G H x a s e da hs Q q => by
    unfold listD at hs
    split at hs
    · cases hs
      obtain ⟨p, xs, rfl, hx, ax⟩ := db_list e da
      exact ⟨p, xs, rfl, .inl hx, fun l hl => q G _ _ (Nx.hid e hl) ⟨l, xs, rfl, hl, e.back hl, upd_same, ax⟩⟩
    · cases hs
      obtain ⟨p, xs, rfl, hx, ax⟩ := db_tup da
      exact ⟨p, xs, rfl, .inr (Ex.sqt e hx), fun l hl => q G _ _ (Nx.hid e hl) ⟨l, xs, rfl, hl, e.back hl, upd_same, ax⟩⟩
    · cases hs
  ne := fun a x h => by unfold listD at h; split at h <;> cases h
theorem callsem_tuple : CallSem c (fun xs H Q => ∃ p ys, xs = [.ref p] ∧ ((SqL c.K H p ys ∧ ∀ l, H l = none → Q (.ref l) (upd H l (.tup ys))) ∨ (SqT c.K H p ys ∧ Q (.ref p) H))) tupleD (RS c) where
  go := fun G H x a s e da hs Q q => by
    unfold tupleD at hs
    split at hs
    · cases hs
      obtain ⟨p, xs, rfl, hx, ax⟩ := db_list e da
      exact ⟨p, xs, rfl, .inl ⟨hx, fun l hl => q _ _ _ (Nx.new e hl) (.tup (.inl (.inl upd_same)) (DpAll.ex (Ex.new (e.back hl)) ax))⟩⟩
    · cases hs
      obtain ⟨p, xs, rfl, hx, ax⟩ := db_tup da
      exact ⟨p, xs, rfl, .inr ⟨Ex.sqt e hx, q G H _ (Nx.refl e) (.tup hx ax)⟩⟩
    · cases hs
  ne := fun a x h => by unfold tupleD at h; split at h <;> cases h
theorem callsem_min : CallSem2 c (fun xs H Q => ∃ i j, xs = [.int i, .int j] ∧ Q (.int (if j < i then j else i)) H) min2D (RS c) where
  go := fun G H x y a b s e da db hs Q q => by
    obtain ⟨i, j, rfl, rfl, hs⟩ := iop_ok hs
    cases hs
    exact ⟨i, j, by rw [db_int da, db_int db], q G H _ (Nx.refl e) (.int _)⟩
  ne := iop_ne fun _ _ _ h => nomatch h
theorem callsem_max : CallSem2 c (fun xs H Q => ∃ i j, xs = [.int i, .int j] ∧ Q (.int (if j > i then j else i)) H) max2D (RS c) where
  go := fun G H x y a b s e da db hs Q q => by
    obtain ⟨i, j, rfl, rfl, hs⟩ := iop_ok hs
    cases hs
    exact ⟨i, j, by rw [db_int da, db_int db], q G H _ (Nx.refl e) (.int _)⟩
  ne := iop_ne fun _ _ _ h => nomatch h
end
/-- sum of a list of ints -/
def intsOf : List PyData → Rs (List Int)
  | [] => .ok []
  | d :: ds => intOf d >>= fun i => intsOf ds >>= fun is => .ok (i :: is)
def sumD : PyData → Rs PyData
  | .list ds => intsOf ds >>= fun is => .ok (.int is.sum)
  | _ => .stuck
theorem intOf_eq {d : PyData} {i : Int} (h : intOf d = .ok i) : d = .int i := by
  unfold intOf at h
  split at h <;> cases h
  rfl
theorem intsOf_ne : ∀ (ds : List PyData) (x : Exn), intsOf ds ≠ .err x
  | [], x, h => by cases h
  | d :: ds, x, h => by
    cases hd : intOf d with
    | stuck => rw [show intsOf (d :: ds) = (intOf d >>= fun i => intsOf ds >>= fun is => .ok (i :: is)) from rfl, hd] at h; cases h
    | err y => unfold intOf at hd; split at hd <;> cases hd
    | ok i =>
      rw [show intsOf (d :: ds) = (intOf d >>= fun i => intsOf ds >>= fun is => .ok (i :: is)) from rfl, hd] at h
      cases hs : intsOf ds with
      | stuck => rw [ok_bind, hs] at h; cases h
      | err y => exact intsOf_ne ds y hs
      | ok is => rw [ok_bind, hs] at h; cases h
theorem intsOf_eq : ∀ {ds : List PyData} {is : List Int}, intsOf ds = .ok is → ds = is.map .int
  | [], is, h => by cases h; rfl
  | d :: ds, is, h => by
    rw [show intsOf (d :: ds) = (intOf d >>= fun i => intsOf ds >>= fun is => .ok (i :: is)) from rfl] at h
    cases hd : intOf d with
    | stuck => rw [hd] at h; cases h
    | err y => rw [hd] at h; cases h
    | ok i =>
      rw [hd, ok_bind] at h
      cases hs : intsOf ds with
      | stuck => rw [hs] at h; cases h
      | err y => rw [hs] at h; cases h
      | ok js =>
        rw [hs, ok_bind] at h
        cases h
        rw [intOf_eq hd, intsOf_eq hs]
        rfl
theorem dpall_ints {K : PySem.W.Frag} {G : Hp} : ∀ {xs : List V} {is : List Int}, DpAll K G xs (is.map .int) → xs = is.map .int
  | _, [], h => by cases h; rfl
  | _, i :: is, h => by
    cases h with
    | cons h a => rw [Dp.int_v h, dpall_ints a]; rfl
theorem callsem_sum {c : Pc} : CallSem c (rSum c.K) sumD (RS c) where
  go := fun G H x a s e da hs Q q => by
    unfold sumD at hs
    split at hs
    · rename_i ds
      cases hi : intsOf ds with
      | stuck => rw [hi] at hs; cases hs
      | err y => rw [hi] at hs; cases hs
      | ok is =>
        rw [hi, ok_bind] at hs
        cases hs
        obtain ⟨p, xs, rfl, hx, ax⟩ := db_list e da
        rw [intsOf_eq hi] at ax
        rw [dpall_ints ax] at hx
        exact ⟨p, is, rfl, hx, q G H _ (Nx.refl e) (.int _)⟩
    · cases hs
  ne := fun a x h => by
    unfold sumD at h
    split at h
    · rename_i ds
      cases hi : intsOf ds with
      | stuck => rw [hi] at h; cases h
      | err y => exact intsOf_ne ds y hi
      | ok is => rw [hi] at h; cases h
    · cases h
/-! ### the class of a value -/
def tyN : PyData → String
  | .none => "NoneType"
  | .bool _ => "bool"
  | .int _ => "int"
  | .str _ => "str"
  | .list _ => "list"
  | .tuple _ => "tuple"
  | .dict _ => "dict"
theorem db_ty {K : PySem.W.Frag} {G H : Hp} {v : V} {d : PyData} (e : Ex G H) (h : Db K G H v d) : TyX K H v (.type (tyN d)) := by
  have h := db_h e h
  cases h with
  | non => exact .base .non
  | bl b => exact .base (.bl b)
  | int i => exact .base (.int i)
  | str x => exact .base (.str x)
  | lst hx a =>
    rcases hx with (h | ⟨o, h⟩) | ⟨o, its, n, h, hc, _⟩
    · exact .base (.lst h)
    · exact .base (.frz h)
    · exact .kList h hc
  | tup hx a =>
    rcases hx with (h | ⟨o, h⟩) | ⟨o, its, n, h, hc, _⟩
    · exact .base (.tup h)
    · exact .fTuple h
    · exact .kTuple h hc
def isiD (T : String) (d : PyData) : Rs PyData := match kitB (tyN d) T with
  | some b => .ok (.bool b)
  | none => .stuck
theorem kit_int (d : PyData) : isiD "int" d = .ok (.bool (match d with | .int _ => true | .bool _ => true | _ => false)) := by cases d <;> rfl
theorem kit_bool (d : PyData) : isiD "bool" d = .ok (.bool (match d with | .bool _ => true | _ => false)) := by cases d <;> rfl
theorem kit_list (d : PyData) : isiD "list" d = .ok (.bool (match d with | .list _ => true | _ => false)) := by cases d <;> rfl
theorem kit_tuple (d : PyData) : isiD "tuple" d = .ok (.bool (match d with | .tuple _ => true | _ => false)) := by cases d <;> rfl
end PF

namespace PF
open PySem L2

/-! ### statements -/
inductive Out where
  | nx (ρ : Env)
  | rt (s : Sl)
def SemP (c : Pc) (E : XK) (t : TS) (F : Env → Rs Out) : Prop :=
  ∀ (G0 H0 G H : Hp) (ρ : Env) (σ : L2.St), Rep c G H ρ σ → Ent G0 H0 G H ρ σ → F ρ ≠ .stuck → ∀ D : Ends,
    (∀ ρ', F ρ = .ok (.nx ρ') → ∀ G' H' σ', Rep c G' H' ρ' σ' → Ent G0 H0 G' H' ρ' σ' → D.nx σ' H') →
    (∀ s, F ρ = .ok (.rt s) → ∀ G' H' v, Nx G0 H0 G' H' → RV c G0 H0 G' H' v s → D.rt v H') → ErrP c E G0 H0 (F ρ) → t D σ H
structure JP (ca : Nat → Addr) (X : Cx) (E : XK) (st : Stmt) (t : TS) (F : Env → Rs Out) : Prop where
  ps : PS X st t
  sem : SemP ⟨X.K, ca⟩ E t F
structure JPs (ca : Nat → Addr) (X : Cx) (E : XK) (sts : List Stmt) (t : TS) (F : Env → Rs Out) : Prop where
  ps : PSs X sts t
  sem : SemP ⟨X.K, ca⟩ E t F
def after (r : Rs Out) (k : Env → Rs Out) : Rs Out := r >>= fun o => match o with
  | .nx ρ => k ρ
  | .rt s => .ok (.rt s)
theorem after_nx {ρ : Env} {k : Env → Rs Out} : after (.ok (.nx ρ)) k = k ρ := rfl
theorem after_rt {s : Sl} {k : Env → Rs Out} : after (.ok (.rt s)) k = .ok (.rt s) := rfl
/-- a statement, what follows is k -/
theorem SemP.use {c : Pc} {E : XK} {t : TS} {F : Env → Rs Out} (h : SemP c E t F) {k : Env → Rs Out} {G0 H0 G H : Hp} {ρ : Env} {σ : L2.St} (rep : Rep c G H ρ σ) (en : Ent G0 H0 G H ρ σ) (hns : after (F ρ) k ≠ .stuck) {D : Ends}
    (go : ∀ ρ', F ρ = .ok (.nx ρ') → after (F ρ) k = k ρ' → ∀ G' H' σ', Rep c G' H' ρ' σ' → Ent G0 H0 G' H' ρ' σ' → D.nx σ' H')
    (rt : ∀ s, after (F ρ) k = .ok (.rt s) → ∀ G' H' v, Nx G0 H0 G' H' → RV c G0 H0 G' H' v s → D.rt v H') (er : ErrP c E G0 H0 (after (F ρ) k)) : t D σ H := by
  refine h G0 H0 G H ρ σ rep en (fun z => hns (by rw [z]; rfl)) D (fun ρ' e => go ρ' e (by rw [e]; rfl)) (fun s e => rt s (by rw [e]; rfl)) fun x e => er x (by rw [e]; rfl)
def fSeq (F G : Env → Rs Out) : Env → Rs Out := fun ρ => after (F ρ) G
def fSkip : Env → Rs Out := fun ρ => .ok (.nx ρ)
/-- a list of our own is shown from now on -/
def fzSl : Option Sl → Option Sl
  | some (.ol ds) => some (.sh (.list ds))
  | _ => none
def fz1 (i : Nat) (ρ : Env) : Env := match fzSl ρ[i]? with
  | some s => ρ.set i s
  | none => ρ
theorem fz_rep {c : Pc} {G0 H0 G H : Hp} {ρ : Env} {σ : L2.St} (i : Nat) (rep : Rep c G H ρ σ) (en : Ent G0 H0 G H ρ σ) : ∃ G', Rep c G' H (fz1 i ρ) σ ∧ Ent G0 H0 G' H (fz1 i ρ) σ := by
  unfold fz1
  cases hs : ρ[i]? with
  | none => exact ⟨G, rep, en⟩
  | some s =>
    cases s with
    | no => exact ⟨G, rep, en⟩
    | sh d => exact ⟨G, rep, en⟩
    | od kvs => exact ⟨G, rep, en⟩
    | exn x => exact ⟨G, rep, en⟩
    | ol ds =>
      show ∃ G', Rep c G' H (ρ.set i (.sh (.list ds))) σ ∧ Ent G0 H0 G' H (ρ.set i (.sh (.list ds))) σ
      obtain ⟨o, e1, p, xs, rfl, gp, hp, q⟩ := rep.sl i _ hs
      have h0 := en.own i _ p hs rfl e1
      have x : Ex G (upd G p (.lst xs)) := Ex.new gp
      have m : Nx G0 H0 (upd G p (.lst xs)) H := en.nx.show h0 hp gp
      have old : ∀ (j : Nat) u, (ρ.set i (.sh (.list ds)))[j]? = some u → u.own = true → j ≠ i ∧ ρ[j]? = some u := fun j u e hu => by
        rw [List.getElem?_set] at e
        by_cases hij : i = j
        · rw [if_pos hij] at e
          split at e <;> cases e
          cases hu
        · rw [if_neg hij] at e
          exact ⟨fun z => hij z.symm, e⟩
      refine ⟨upd G p (.lst xs), ⟨m.gh, by rw [List.length_set, rep.len], fun j u e => ?_, fun j k u u' r a1 a2 w1 w2 f1 f2 => ?_⟩, ⟨m, fun j u r a w f => ?_⟩⟩
      · rw [List.getElem?_set] at e
        by_cases hij : i = j
        · rw [if_pos hij] at e
          split at e
          · cases e
            rw [← hij]
            exact ⟨_, e1, _, rfl, .lst (.inl (.inl upd_same)) (DpAll.ex x q)⟩
          · cases e
        · rw [if_neg hij] at e
          obtain ⟨o, e2, q2⟩ := rep.sl j u e
          refine ⟨o, e2, ?_⟩
          have ne : ∀ b, o = some (.ref b) → u.own = true → b ≠ p := fun b eb hu z => by
            subst z
            rw [eb] at e2
            exact hij (rep.inj i j _ u b hs e rfl hu e1 e2)
          cases u with
          | no => trivial
          | sh d => obtain ⟨v, z1, z2⟩ := q2; exact ⟨v, z1, Dp.ex x z2⟩
          | ol es => obtain ⟨b, ys, z1, g1, z2, z3⟩ := q2; exact ⟨b, ys, z1, by rw [upd_ne (ne b z1 rfl)]; exact g1, z2, DpAll.ex x z3⟩
          | od es => obtain ⟨b, ys, z1, g1, z2, z3⟩ := q2; exact ⟨b, ys, z1, by rw [upd_ne (ne b z1 rfl)]; exact g1, z2, KvOk.ex x z3⟩
          | exn y => obtain ⟨v, z1, z2⟩ := q2; exact ⟨v, z1, z2.ex x⟩
      · obtain ⟨_, b1⟩ := old j u a1 w1
        obtain ⟨_, b2⟩ := old k u' a2 w2
        exact rep.inj j k u u' r b1 b2 w1 w2 f1 f2
      · obtain ⟨_, b1⟩ := old j u a w
        exact en.own j u r b1 w f
/-- what a context is to be -/
structure CxOk (X : Cx) (E : XK) : Prop where
  calm : X.calm = true
  un : X.A.units + 200 < cLine
  nd : X.N.Nodup
  pas : PassesOwn (model X.prog X.w) X.A X.env X.xe
  call : Passes (L2.CX X.prog X.w) X E
section
variable {ca : Nat → Addr} {X : Cx} {E : XK} {st : Stmt} {sts : List Stmt} {t u : TS} {F F' : Env → Rs Out}
theorem jps_fz (i : Nat) (h : JPs ca X E sts t F) : JPs ca X E sts t (fun ρ => F (fz1 i ρ)) :=
  ⟨h.ps, fun G0 H0 G H ρ σ rep en hns D nx rt er => by
    obtain ⟨G', rep', en'⟩ := fz_rep i rep en
    exact h.sem G0 H0 G' H _ σ rep' en' hns D nx rt er⟩
theorem jp_fz (i : Nat) (h : JP ca X E st t F) : JP ca X E st t (fun ρ => F (fz1 i ρ)) :=
  ⟨h.ps, fun G0 H0 G H ρ σ rep en hns D nx rt er => by
    obtain ⟨G', rep', en'⟩ := fz_rep i rep en
    exact h.sem G0 H0 G' H _ σ rep' en' hns D nx rt er⟩
theorem jps_nil : JPs ca X E [] tNext fSkip := ⟨pss_nil, fun G0 H0 G H ρ σ rep en hns D nx rt er => nx ρ rfl G H σ rep en⟩
theorem jps_one (h : JP ca X E st t F) : JPs ca X E [st] t F := ⟨pss_one h.ps, h.sem⟩
theorem jps_cons (h : JP ca X E st t F) (h' : JPs ca X E sts u F') : JPs ca X E (st :: sts) (tSeq t u) (fSeq F F') :=
  ⟨pss_cons h.ps h'.ps, fun G0 H0 G H ρ σ rep en hns D nx rt er => h.sem.use rep en hns (fun ρ' e1 e2 G' H' σ' rep' en' =>
      h'.sem G0 H0 G' H' ρ' σ' rep' en' (by rw [← e2]; exact hns) D (fun ρ2 e3 => nx ρ2 (e2.trans e3)) (fun s e3 => rt s (e2.trans e3)) (by rw [← e2]; exact er)) rt er⟩
theorem jp_pass {pos : Pos} : JP ca X E (.Pass pos) tNext fSkip := ⟨ps_pass, fun G0 H0 G H ρ σ rep en hns D nx rt er => nx ρ rfl G H σ rep en⟩
/-- what can't be met -/
def fNever : Env → Rs Out := fun _ => .stuck
theorem jp_never : JP ca X E st tNever fNever := ⟨ps_never, fun G0 H0 G H ρ σ rep en hns D nx rt er => absurd rfl hns⟩
end
/-! ### assignments, returns, tests -/
def fSet (i : Nat) (F : Env → Rs Sl) : Env → Rs Out := fun ρ => F ρ >>= fun s => .ok (.nx (ρ.set i s))
def fRet (F : Env → Rs Sl) : Env → Rs Out := fun ρ => F ρ >>= fun s => .ok (.rt s)
def slRet : Option Sl → Rs Sl
  | some (.sh d) => .ok (.sh d)
  | some (.ol ds) => .ok (.ol ds)
  | some (.od kvs) => .ok (.od kvs)
  | _ => .stuck
def fRetVar (i : Nat) : Env → Rs Out := fun ρ => slRet ρ[i]? >>= fun s => .ok (.rt s)
def fIf (F : Env → Rs Bool) (A B : Env → Rs Out) : Env → Rs Out := fun ρ => F ρ >>= fun b => if b = true then A ρ else B ρ
/-- a slot takes what an expression gave -/
theorem rep_take {c : Pc} {G0 H0 G H G' H' : Hp} {ρ : Env} {σ : L2.St} {v : V} {s : Sl} (i : Nat) (rep : Rep c G H ρ σ) (en : Ent G0 H0 G H ρ σ) (n : Nx G H G' H') (q : RV c G H G' H' v s) :
    Rep c G' H' (ρ.set i s) (σ.set i (some v)) ∧ Ent G0 H0 G' H' (ρ.set i s) (σ.set i (some v)) := by
  have r' := rep.nx n
  have fresh : ∀ p, H p = none → ∀ (j : Nat) u, j ≠ i → ρ[j]? = some u → u.own = true → σ[j]? ≠ some (some (.ref p)) := fun p hp j u _ e hu z => by
    obtain ⟨o, e1, q⟩ := rep.sl j u e
    rw [z] at e1
    cases e1
    cases u with
    | ol ds => obtain ⟨b, xs, z1, _, h1, _⟩ := q; cases z1; rw [hp] at h1; cases h1
    | od ds => obtain ⟨b, xs, z1, _, h1, _⟩ := q; cases z1; rw [hp] at h1; cases h1
    | no => cases hu
    | sh d => cases hu
    | exn x => cases hu
  have ent : ∀ (w : s.own = true → ∀ p, v = .ref p → H0 p = none), Ent G0 H0 G' H' (ρ.set i s) (σ.set i (some v)) := fun w => by
    refine ⟨en.nx.trans n, fun j u p e hu f => ?_⟩
    rw [List.getElem?_set] at e f
    by_cases hij : i = j
    · rw [if_pos hij] at e f
      split at e
      · cases e
        split at f
        · cases f
          exact w hu p rfl
        · cases f
      · cases e
    · rw [if_neg hij] at e f
      exact en.own j u p e hu f
  cases s with
  | no => exact q.elim
  | sh d => exact ⟨r'.set rfl ⟨v, rfl, q⟩, ent fun z => nomatch z⟩
  | ol ds =>
    obtain ⟨p, xs, rfl, h0, g1, h1, q⟩ := q
    exact ⟨r'.setOwn ⟨p, xs, rfl, g1, h1, q⟩ (fresh p h0), ent fun _ b e => by cases e; exact en.nx.h.back h0⟩
  | od ds =>
    obtain ⟨p, xs, rfl, h0, g1, h1, q⟩ := q
    exact ⟨r'.setOwn ⟨p, xs, rfl, g1, h1, q⟩ (fresh p h0), ent fun _ b e => by cases e; exact en.nx.h.back h0⟩
  | exn x => exact ⟨r'.set rfl ⟨v, rfl, q⟩, ent fun z => nomatch z⟩
theorem sem_set {c : Pc} {E : XK} {te : TE} {F : Env → Rs Sl} (i : Nat) (h : SemG c E te F (RV c)) : SemP c E (tAsg te (gName i)) (fSet i F) := by
  intro G0 H0 G H ρ σ rep en hns D nx rt er
  refine h.use rep hns (fun x e G' H' cl dd n => er x e G' H' cl dd (en.nx.trans n)) fun s es e1 G' H' v n _ q hk _ => ?_
  obtain ⟨r2, e2⟩ := rep_take i rep en n q
  exact nx _ e1 G' H' _ r2 e2
section
variable {ca : Nat → Addr} {X : Cx} {E : XK} {e : Expr} {te : TE} {F : Env → Rs Sl} {pos pos' : Pos}
theorem jp_set {i : Nat} {x : Str} (h : JV ca X E e te F) (hN : X.N.Nodup) (hi : X.N[i]? = some x) (hx : Loc X.env.scope x) (hs : swapsWith e (some (.Name x pos')) pos.line X.env = pure false := by rfl)
    (hf : X.fn x = true ∨ X.env.scope.names.lookup x = some .local := by first | exact .inl rfl | exact .inr rfl) : JP ca X E (.Assign [.Name x pos'] e pos) (tAsg te (gName i)) (fSet i F) :=
  ⟨ps_set hN hi hx h.pe hs hf, sem_set i h.sem⟩
theorem jp_ret (h : JV ca X E e te F) : JP ca X E (.Return (some e) pos) (tRet te) (fRet F) :=
  ⟨ps_ret h.pe, fun G0 H0 G H ρ σ rep en hns D nx rt er => h.sem.use rep hns (fun x e G' H' cl dd n => er x e G' H' cl dd (en.nx.trans n)) fun s es e1 G' H' v n _ q hk _ =>
    rt s e1 G' H' v (en.nx.trans n) (RV.mono en.nx q)⟩
theorem jp_retVar (i : Nat) {x : Str} (h : PE X (.Name x pos') (tVar i)) : JP ca X E (.Return (some (.Name x pos')) pos) (tRet (tVar i)) (fRetVar i) := by
  refine ⟨ps_ret h, fun G0 H0 G H ρ σ rep en hns D nx rt er => ?_⟩
  unfold fRetVar at hns rt
  cases hs : ρ[i]? with
  | none => rw [hs] at hns; exact absurd rfl hns
  | some s =>
    rw [hs] at hns rt
    obtain ⟨o, e1, q⟩ := rep.sl i s hs
    cases s with
    | no => exact absurd rfl hns
    | exn x => exact absurd rfl hns
    | sh d =>
      obtain ⟨v, rfl, q⟩ := q
      exact ⟨v, e1, rt (.sh d) rfl G H v en.nx q⟩
    | ol ds =>
      obtain ⟨p, xs, rfl, gp, hp, q⟩ := q
      exact ⟨_, e1, rt (.ol ds) rfl G H _ en.nx ⟨p, xs, rfl, en.own i _ p hs rfl e1, gp, hp, q⟩⟩
    | od ds =>
      obtain ⟨p, xs, rfl, gp, hp, q⟩ := q
      exact ⟨_, e1, rt (.od ds) rfl G H _ en.nx ⟨p, xs, rfl, en.own i _ p hs rfl e1, gp, hp, q⟩⟩
theorem jp_if {c : Expr} {a b : List Stmt} {tc : TT} {ta tb : TS} {Fc : Env → Rs Bool} {Fa Fb : Env → Rs Out} (hc : JT ca X E c tc Fc) (ha : JPs ca X E a ta Fa) (hb : JPs ca X E b tb Fb) : JP ca X E (.If c a b pos) (tIfS tc ta tb) (fIf Fc Fa Fb) :=
  ⟨ps_if hc.pt ha.ps hb.ps, fun G0 H0 G H ρ σ rep en hns D nx rt er => hc.sem.use rep hns (fun x e G' H' cl dd n => er x e G' H' cl dd (en.nx.trans n)) fun s es e1 G' H' v n r q hk _ => by
    cases q
    cases s with
    | true =>
      show ta D σ H'
      exact ha.sem G0 H0 G' H' ρ σ r (en.go n) hk D (fun ρ' e => nx ρ' (e1.trans e)) (fun s e => rt s (e1.trans e)) fun x e => er x (e1.trans e)
    | false =>
      show tb D σ H'
      exact hb.sem G0 H0 G' H' ρ σ r (en.go n) hk D (fun ρ' e => nx ρ' (e1.trans e)) (fun s e => rt s (e1.trans e)) fun x e => er x (e1.trans e)⟩
end
/-! ### a, b = x, y with plain local names -/
def fPar (i j : Nat) (F : Env → Rs (List PyData)) : Env → Rs Out := fun ρ => F ρ >>= fun ds => match ds with
  | [a, b] => .ok (.nx ((ρ.set i (.sh a)).set j (.sh b)))
  | _ => .stuck
section
variable {ca : Nat → Addr} {X : Cx} {E : XK}
theorem jp_par {i j : Nat} {x y : Str} {a b : Expr} {ta : TA} {F : Env → Rs (List PyData)} {px py pt pos : Pos} {kt k2 pt2} (ha : JA ca X E [a, b] ta F) (hc : X.calm = true) (hN : X.N.Nodup) (hi : X.N[i]? = some x) (hj : X.N[j]? = some y) (hij : i ≠ j)
    (hx : X.env.scope.names.lookup x = some .local) (hy : X.env.scope.names.lookup y = some .local)
    (hw : swappedStores [.Tuple [.Name x px, .Name y py] kt pt] (.Tuple [a, b] k2 pt2) X.env = pure (some [x, y]) := by rfl)
    (hs : swapsWithSole [.Tuple [.Name x px, .Name y py] kt pt] (.Tuple [a, b] k2 pt2) pos.line X.env = pure false := by rfl) :
    JP ca X E (.Assign [.Tuple [.Name x px, .Name y py] kt pt] (.Tuple [a, b] k2 pt2) pos) (tPar i j ta) (fPar i j F) :=
  ⟨ps_par hc hN hi hj hij hx hy ha.pa hw hs, fun G0 H0 G H ρ σ rep en hns D nx rt er => ha.sem.use rep hns (fun x e G' H' cl dd n => er x e G' H' cl dd (en.nx.trans n)) fun ds es e1 G' H' vs n r q hk _ => by
    have q : DpAll X.K G' vs ds := q
    match ds, vs, q with
    | [d, e], _, .cons q1 (.cons q2 .nil) =>
      refine ⟨_, _, rfl, ?_⟩
      obtain ⟨r1, n1⟩ := rep_take (s := .sh d) i rep en n q1
      obtain ⟨r2, n2⟩ := rep_take (s := .sh e) j r1 n1 (Nx.refl r1.gh) q2
      exact nx _ e1 G' H' _ r2 n2
    | [], _, _ => exact absurd rfl hk
    | [_], _, _ => exact absurd rfl hk
    | _ :: _ :: _ :: _, _, _ => exact absurd rfl hk⟩
end
/-! ### while -/
def whF (c : Env → Rs Bool) (b : Env → Rs Out) : Nat → Env → Rs Out
  | 0, _ => .stuck
  | n + 1, ρ => c ρ >>= fun k => if k = true then after (b ρ) (whF c b n) else .ok (.nx ρ)
theorem whF_mono {c : Env → Rs Bool} {b : Env → Rs Out} : ∀ (n m : Nat) (ρ : Env), n ≤ m → whF c b n ρ ≠ .stuck → whF c b m ρ = whF c b n ρ
  | 0, _, _, _, h => absurd rfl h
  | n + 1, 0, _, hl, _ => absurd hl (by omega)
  | n + 1, m + 1, ρ, hl, h => by
    unfold whF at h ⊢
    cases hc : c ρ with
    | stuck => rfl
    | err x => rfl
    | ok k =>
      rw [hc, ok_bind] at h
      rw [ok_bind, ok_bind]
      cases k with
      | false => rfl
      | true =>
        rw [if_pos rfl] at h
        rw [if_pos rfl, if_pos rfl]
        cases hb : b ρ with
        | stuck => rfl
        | err x => rfl
        | ok o =>
          cases o with
          | rt s => rfl
          | nx ρ' =>
            rw [hb, after_nx] at h
            rw [after_nx, after_nx]
            exact whF_mono n m ρ' (by omega) h
open Classical in
/-- the whole loop -/
noncomputable def whL (c : Env → Rs Bool) (b : Env → Rs Out) (ρ : Env) : Rs Out := if h : ∃ n, whF c b n ρ ≠ .stuck then whF c b (Classical.choose h) ρ else .stuck
theorem whL_of {c : Env → Rs Bool} {b : Env → Rs Out} {n : Nat} {ρ : Env} {r : Rs Out} (h : whF c b n ρ = r) (hr : r ≠ .stuck) : whL c b ρ = r := by
  have hx : ∃ n, whF c b n ρ ≠ .stuck := ⟨n, by rw [h]; exact hr⟩
  have e : whL c b ρ = whF c b (Classical.choose hx) ρ := dif_pos hx
  have h2 := Classical.choose_spec hx
  rw [e]
  by_cases hl : n ≤ Classical.choose hx
  · rw [whF_mono n _ ρ hl (by rw [h]; exact hr), h]
  · rw [← whF_mono _ n ρ (by omega) h2, h]
theorem whL_ex {c : Env → Rs Bool} {b : Env → Rs Out} {ρ : Env} (h : whL c b ρ ≠ .stuck) : ∃ n, whF c b n ρ = whL c b ρ := by
  by_cases hx : ∃ n, whF c b n ρ ≠ .stuck
  · exact ⟨Classical.choose hx, by unfold whL; rw [dif_pos hx]⟩
  · exact absurd (dif_neg hx) h
/-- one turn of it -/
theorem whL_eq (c : Env → Rs Bool) (b : Env → Rs Out) (ρ : Env) : whL c b ρ = (c ρ >>= fun k => if k = true then after (b ρ) (whL c b) else .ok (.nx ρ)) := by
  cases hc : c ρ with
  | stuck =>
    have : ∀ n, whF c b n ρ = .stuck := fun n => by cases n with
      | zero => rfl
      | succ n => unfold whF; rw [hc]; rfl
    exact dif_neg fun ⟨n, h⟩ => h (this n)
  | err x => exact whL_of (n := 1) (by unfold whF; rw [hc]; rfl) (fun z => nomatch z)
  | ok k =>
    rw [ok_bind]
    cases k with
    | false => exact whL_of (n := 1) (by unfold whF; rw [hc]; rfl) (fun z => nomatch z)
    | true =>
      rw [if_pos rfl]
      have e1 : ∀ n, whF c b (n + 1) ρ = after (b ρ) (whF c b n) := fun n => by
        show (c ρ >>= fun k => if k = true then after (b ρ) (whF c b n) else .ok (.nx ρ)) = _
        rw [hc, ok_bind, if_pos rfl]
      by_cases hx : after (b ρ) (whL c b) = .stuck
      · rw [hx]
        refine dif_neg fun ⟨n, h⟩ => ?_
        cases n with
        | zero => exact h rfl
        | succ n =>
          rw [e1] at h
          cases hb : b ρ with
          | stuck => rw [hb] at h; exact h rfl
          | err x => rw [hb] at hx; cases hx
          | ok o =>
            cases o with
            | rt s => rw [hb] at hx; cases hx
            | nx ρ' =>
              rw [hb, after_nx] at h hx
              rw [whL_of rfl h] at hx
              exact h hx
      · cases hb : b ρ with
        | stuck => rw [hb] at hx; exact absurd rfl hx
        | err x => exact whL_of (n := 1) (by rw [e1, hb]; rfl) (fun z => nomatch z)
        | ok o =>
          cases o with
          | rt s => exact whL_of (n := 1) (by rw [e1, hb]; rfl) (fun z => nomatch z)
          | nx ρ' =>
            rw [hb, after_nx] at hx
            obtain ⟨n, hn⟩ := whL_ex hx
            rw [after_nx]
            exact whL_of (n := n + 1) (by rw [e1, hb, after_nx, hn]) hx
section
variable {ca : Nat → Addr} {X : Cx} {E : XK} {pos : Pos}
theorem jp_while {c : Expr} {body : List Stmt} {tc : TT} {tb : TS} {Fc : Env → Rs Bool} {Fb : Env → Rs Out} (hc : JT ca X E c tc Fc) (hb : JPs ca X E body tb Fb) (hp : PassesOwn (model X.prog X.w) X.A X.env X.xe) : JP ca X E (.While c body [] pos) (tWhile tc tb) (whL Fc Fb) := by
  refine ⟨ps_while hp hc.pt hb.ps, fun G0 H0 G H ρ σ rep en hns D nx rt er => ?_⟩
  obtain ⟨n, hn⟩ := whL_ex hns
  refine ⟨fun m σ' H' => ∃ G' ρ', Rep ⟨X.K, ca⟩ G' H' ρ' σ' ∧ Ent G0 H0 G' H' ρ' σ' ∧ whF Fc Fb m ρ' = whL Fc Fb ρ, ⟨n, G, ρ, rep, en, hn⟩, fun m σ' H' h => ?_⟩
  obtain ⟨G', ρ', rep', en', hm⟩ := h
  cases m with
  | zero => exact absurd hm.symm hns
  | succ m =>
    have e0 : (Fc ρ' >>= fun k => if k = true then after (Fb ρ') (whF Fc Fb m) else .ok (.nx ρ')) = whL Fc Fb ρ := hm
    refine hc.sem.use rep' (by rw [e0]; exact hns) (fun x e G' H' cl dd n => er x (e0 ▸ e) G' H' cl dd (en'.nx.trans n)) fun k hk e1 G1 H1 v n1 r1 q hk1 _ => ?_
    cases q
    cases k with
    | false =>
      show D.nx σ' H1
      exact nx ρ' (e0.symm.trans e1) G1 H1 σ' r1 (en'.go n1)
    | true =>
      show ∃ N : L2.St → Hp → Prop, _
      rw [if_pos rfl] at e1 hk1
      have e2 : after (Fb ρ') (whF Fc Fb m) = whL Fc Fb ρ := e1.symm.trans e0
      refine ⟨fun σ2 H2 => ∃ G2 ρ2, Rep ⟨X.K, ca⟩ G2 H2 ρ2 σ2 ∧ Ent G0 H0 G2 H2 ρ2 σ2 ∧ whF Fc Fb m ρ2 = whL Fc Fb ρ, fun σ2 H2 h => ⟨m, Nat.lt_succ_self m, h⟩, ?_⟩
      exact hb.sem.use r1 (en'.go n1) hk1 (fun ρ2 e3 e4 G2 H2 σ2 rep2 en2 => ⟨G2, ρ2, rep2, en2, e4.symm.trans e2⟩) (fun s e3 => rt s (e2.symm.trans e3)) fun x e => er x (e2.symm.trans e)
end
/-! ### defs -/
def outV : Rs Out → Rs Sl
  | .ok (.nx _) => .ok (.sh .none)
  | .ok (.rt s) => .ok s
  | .err x => .err x
  | .stuck => .stuck
/-- a def's function: its parameters shared, its other names nothing -/
def fnOf (np n : Nat) (F : Env → Rs Out) (ds : List PyData) : Rs Sl := if ds.length = np then outV (F (ds.map Sl.sh ++ List.replicate (n - ds.length) Sl.no)) else .stuck
/-- the promise -/
def spF (c : Pc) (f : List PyData → Rs Sl) (np : Nat) : Sp := fun vs H Q E => ∃ G ds, Ex G H ∧ DpAll c.K G vs ds ∧ ds.length = np ∧ f ds ≠ .stuck ∧
  (∀ s, f ds = .ok s → ∀ G' H' v, Nx G H G' H' → RV c G H G' H' v s → Q v H') ∧ ErrP c E G H (f ds)
theorem start_rep {c : Pc} {G H : Hp} {N : List Str} {vs : List V} {ds : List PyData} (e : Ex G H) (a : DpAll c.K G vs ds) (hl : ds.length ≤ N.length) : Rep c G H (ds.map Sl.sh ++ List.replicate (N.length - ds.length) Sl.no) (L2.start N vs) := by
  have hv := DpAll.length a
  have noown : ∀ (i : Nat) s, (ds.map Sl.sh ++ List.replicate (N.length - ds.length) Sl.no)[i]? = some s → s.own = false := fun i s h => by
    have hm := List.mem_of_getElem? h
    rcases List.mem_append.mp hm with q | q
    · obtain ⟨d, _, rfl⟩ := List.mem_map.mp q
      rfl
    · rw [(List.mem_replicate.mp q).2]
      rfl
  refine ⟨e, ?_, fun i s h => ?_, fun i j s s' p h1 h2 w1 w2 => ?_⟩
  · unfold L2.start
    simp only [List.length_append, List.length_map, List.length_replicate]
    omega
  · unfold L2.start
    by_cases hi : i < ds.length
    · rw [List.getElem?_append_left (by rw [List.length_map]; exact hi), List.getElem?_map] at h
      cases hd : ds[i]? with
      | none => rw [hd] at h; cases h
      | some d =>
        rw [hd] at h
        cases h
        obtain ⟨v, hv, q⟩ := DpAll.getD a hd
        refine ⟨some v, ?_, v, rfl, q⟩
        rw [List.getElem?_append_left (by rw [List.length_map]; omega), List.getElem?_map, hv]
        rfl
    · rw [List.getElem?_append_right (by rw [List.length_map]; omega)] at h
      have hs := List.mem_of_getElem? h
      rw [(List.mem_replicate.mp hs).2]
      have hlt := (List.getElem?_eq_some_iff.mp h).1
      rw [List.length_map, List.length_replicate] at hlt
      refine ⟨none, ?_, trivial⟩
      rw [List.getElem?_append_right (by rw [List.length_map]; omega), List.getElem?_replicate, if_pos (by rw [List.length_map]; omega)]
  · rw [noown i s h1] at w1
    cases w1
theorem fnOf_len {np n : Nat} {F : Env → Rs Out} (ds : List PyData) (h : fnOf np n F ds ≠ .stuck) : ds.length = np := by
  unfold fnOf at h
  split at h
  · assumption
  · exact absurd rfl h
/-- THE RULE for a def -/
theorem fn_ok {P : Program} {w : World} {K : PySem.W.Frag} {mg : Str → Option Value} {base : Heap} {ca : Nat → Addr} {x qual : Str} {st : Stmt} {f : Addr} {fd : FuncData} {N ps : List Str} {k : Nat} (F : Fun K x qual st f fd) (S : FnScope N ps (defScope st)) (FF : Env → Rs Out)
    (hb : ∀ (cdv : Value) (A : Around) (outer : List PySem.Env) (s : Shared) (H : Hp) (E : XK), Room k (A.deeper (PyProof.Rows.envOfC qual (defScope st) s.heap.objs.size f cdv)) →
      CxOk (cxOf (L2.CX P w) P w K mg base N qual (defScope st) f cdv A outer s H E) E →
      ∃ t, JPs ca (cxOf (L2.CX P w) P w K mg base N qual (defScope st) f cdv A outer s H E) E (defBody st) t FF) (hnp : ps.length ≤ N.length := by decide) :
    FnOk P w K mg base (L2.CX P w) (k + 1) f fd ps (spF ⟨K, ca⟩ (fnOf ps.length N.length FF) ps.length) := by
  refine F.okX S (fun vs H Q E h => ?_) (fun cdv A outer s H vs Q E hr h => ?_)
  · obtain ⟨G, ds, _, a, e, _⟩ := h
    rw [DpAll.length a, e]
  · obtain ⟨G, ds, e, a, el, hns, hok, her⟩ := h
    have o : CxOk (cxOf (L2.CX P w) P w K mg base N qual (defScope st) f cdv A outer s H E) E :=
      ⟨rfl, by have := hr.un; show (A.deeper _).units + 200 < cLine; omega, S.nd, passes_of rfl, passes_call (takes_of rfl rfl rfl rfl) fun _ _ _ _ z => z⟩
    obtain ⟨t, hps, hsem⟩ := hb cdv A outer s H E hr o
    refine ⟨t, hps, ?_⟩
    have rep : Rep ⟨K, ca⟩ G H (ds.map Sl.sh ++ List.replicate (N.length - ds.length) Sl.no) (L2.start N vs) := start_rep e a (by rw [el]; exact hnp)
    have ent : Ent G H G H (ds.map Sl.sh ++ List.replicate (N.length - ds.length) Sl.no) (L2.start N vs) := ⟨Nx.refl e, fun i s p h1 h2 h3 => by
      have hm := List.mem_of_getElem? h1
      rcases List.mem_append.mp hm with q | q
      · obtain ⟨d, _, rfl⟩ := List.mem_map.mp q
        cases h2
      · rw [(List.mem_replicate.mp q).2] at h2
        cases h2⟩
    have key : ∀ r, FF (ds.map Sl.sh ++ List.replicate (N.length - ds.length) Sl.no) = r → fnOf ps.length N.length FF ds = outV r := fun r z => by unfold fnOf; rw [if_pos el, z]
    refine hsem G H G H _ _ rep ent (fun z => hns (by rw [key _ z]; rfl)) _ (fun ρ' z G' H' σ' r' n' => ?_) (fun s z G' H' v n q => ?_) fun y z => ?_
    · exact hok (.sh .none) (by rw [key _ z]; rfl) G' H' .non n'.nx .non
    · exact hok s (by rw [key _ z]; rfl) G' H' v n q
    · exact her y (by rw [key _ z]; rfl)
/-- f(..) -/
def fCall (f : List PyData → Rs Sl) (F : Env → Rs (List PyData)) : Env → Rs Sl := fun ρ => F ρ >>= f
theorem sem_callF {c : Pc} {E : XK} {f : List PyData → Rs Sl} {np : Nat} {t : TA} {F : Env → Rs (List PyData)} (h : SemG c E t F (RA c)) (hl : ∀ ds, f ds ≠ .stuck → ds.length = np) : SemG c E (tCall (spF c f np) [] E t) (fCall f F) (RV c) := by
  intro G H ρ σ rep hns Q ok er
  refine h.use rep hns er fun ds ed e1 G1 H1 vs n1 r1 q1 h1 er1 => ?_
  show spF c f np (vs ++ []) H1 Q E
  rw [List.append_nil]
  exact ⟨G1, ds, n1.gh, q1, hl ds h1, h1, fun s es G' H' v n q => ok s (e1.trans es) G' H' v (n1.trans n) (RV.mono n1 q), er1⟩
end PF

namespace PF
open PySem L2

/-! ### targets -/
theorem wipe_set {σ : L2.St} {i : Nat} {o : Option V} : ∀ {vs : List Nat}, i ∈ vs → wipe (σ.set i o) vs = wipe σ vs
  | v :: vs, h => by
    show (wipe (σ.set i o) vs).set v none = (wipe σ vs).set v none
    by_cases hi : i ∈ vs
    · rw [wipe_set hi]
    · have e : v = i := by
        rcases List.mem_cons.mp h with q | q
        · exact q.symm
        · exact absurd q hi
      subst e
      have key : ∀ (us : List Nat), v ∉ us → wipe (σ.set v o) us = (wipe σ us).set v o := fun us => by
        induction us with
        | nil => intro _; rfl
        | cons u us ih =>
          intro hu
          have h1 : v ≠ u := fun z => hu (by rw [z]; exact List.mem_cons_self)
          show (wipe (σ.set v o) us).set u none = ((wipe σ us).set u none).set v o
          rw [ih fun z => hu (List.mem_cons_of_mem _ z)]
          exact List.set_comm _ _ h1
      rw [key vs hi, List.set_set]
theorem wipe_idem (σ : L2.St) (vs : List Nat) : wipe (wipe σ vs) vs = wipe σ vs := by
  have key : ∀ us : List Nat, (∀ u ∈ us, u ∈ vs) → wipe (wipe σ us) vs = wipe σ vs := fun us => by
    induction us with
    | nil => intro _; rfl
    | cons u us ih =>
      intro h
      show wipe ((wipe σ us).set u none) vs = wipe σ vs
      rw [wipe_set (h u List.mem_cons_self)]
      exact ih fun z hz => h z (List.mem_cons_of_mem _ hz)
  exact key vs fun _ h => h
/-- what a target binds -/
abbrev Tgt := PyData → Env → Option Env
def SemTG (c : Pc) (g : TG) (T : Tgt) (L : List Nat) : Prop :=
  ∀ (G H : Hp) (ρ : Env) (σ : L2.St) (v : V) (d : PyData) (ρ' : Env), Rep c G H ρ σ → Dp c.K G v d → T d ρ = some ρ' → ∀ Q : L2.St → Hp → Prop,
    (∀ σ', Rep c G H ρ' σ' → (∀ (i : Nat) s, ρ'[i]? = some s → s.own = true → ρ[i]? = some s ∧ σ'[i]? = σ[i]?) → (∀ vs, (∀ i ∈ L, i ∈ vs) → wipe σ' vs = wipe σ vs) → Q σ' H) → g v σ H Q
structure JG (ca : Nat → Addr) (X : Cx) (e : Expr) (g : TG) (T : Tgt) (L : List Nat) : Prop where
  pg : PG X e g
  sem : SemTG ⟨X.K, ca⟩ g T L
abbrev Tgts := List PyData → Env → Option Env
def SemTGs (c : Pc) (g : TGs) (T : Tgts) (L : List Nat) : Prop :=
  ∀ (G H : Hp) (ρ : Env) (σ : L2.St) (vs : List V) (ds : List PyData) (ρ' : Env), Rep c G H ρ σ → DpAll c.K G vs ds → T ds ρ = some ρ' → ∀ Q : L2.St → Hp → Prop,
    (∀ σ', Rep c G H ρ' σ' → (∀ (i : Nat) s, ρ'[i]? = some s → s.own = true → ρ[i]? = some s ∧ σ'[i]? = σ[i]?) → (∀ vs, (∀ i ∈ L, i ∈ vs) → wipe σ' vs = wipe σ vs) → Q σ' H) → g vs σ H Q
structure JGs (ca : Nat → Addr) (X : Cx) (es : List Expr) (g : TGs) (T : Tgts) (L : List Nat) : Prop where
  pgs : PGs X es g
  sem : SemTGs ⟨X.K, ca⟩ g T L
def tgN (i : Nat) : Tgt := fun d ρ => some (ρ.set i (.sh d))
def tgNil : Tgts := fun ds ρ => match ds with
  | [] => some ρ
  | _ => none
def tgCons (T : Tgt) (Ts : Tgts) : Tgts := fun ds ρ => match ds with
  | [] => none
  | d :: ds => (T d ρ).bind (Ts ds)
def tgT (n : Nat) (Ts : Tgts) : Tgt := fun d ρ => match d with
  | .tuple ds => if ds.length = n then Ts ds ρ else none
  | _ => none
def tgL (n : Nat) (Ts : Tgts) : Tgt := fun d ρ => match d with
  | .list ds => if ds.length = n then Ts ds ρ else none
  | _ => none
section
variable {ca : Nat → Addr} {X : Cx} {pos : Pos}
theorem own_set {ρ : Env} {σ : L2.St} {i : Nat} {d : PyData} {o : Option V} : ∀ (j : Nat) s, (ρ.set i (.sh d))[j]? = some s → s.own = true → ρ[j]? = some s ∧ (σ.set i o)[j]? = σ[j]? := fun j s e hs => by
  rw [List.getElem?_set] at e ⊢
  by_cases hij : i = j
  · rw [if_pos hij] at e
    split at e <;> cases e
    cases hs
  · rw [if_neg hij] at e ⊢
    exact ⟨e, rfl⟩
theorem jg_name {i : Nat} {x : Str} (hN : X.N.Nodup) (hi : X.N[i]? = some x) (hx : Loc X.env.scope x) (hf : X.fn x = true ∨ X.env.scope.names.lookup x = some .local := by first | exact .inl rfl | exact .inr rfl) : JG ca X (.Name x pos) (gName i) (tgN i) [i] :=
  ⟨pg_name hN hi hx hf, fun G H ρ σ v d ρ' rep q e Q k => by
    cases e
    exact k _ (rep.set rfl ⟨v, rfl, q⟩) own_set fun vs hv => wipe_set (hv i List.mem_cons_self)⟩
theorem jgs_nil : JGs ca X [] gNil tgNil [] :=
  ⟨pgs_nil, fun G H ρ σ vs ds ρ' rep q e Q k => by
    cases q with
    | nil =>
      cases e
      exact ⟨rfl, k σ rep (fun i s h _ => ⟨h, rfl⟩) fun _ _ => rfl⟩
    | cons _ _ => cases e⟩
theorem jgs_cons {e : Expr} {es : List Expr} {g : TG} {gs : TGs} {T : Tgt} {Ts : Tgts} {L L' : List Nat} (h : JG ca X e g T L) (h' : JGs ca X es gs Ts L')
    (hs : (assignEach (e :: es) X.env).map (·.2) = assign e X.env :: (assignEach es X.env).map (·.2) := by rfl) : JGs ca X (e :: es) (gCons g gs) (tgCons T Ts) (L ++ L') :=
  ⟨pgs_cons h.pg h'.pgs hs, fun G H ρ σ vs ds ρ' rep q e Q k => by
    cases q with
    | nil => cases e
    | @cons v vs d ds q1 q2 =>
      have e : (T d ρ).bind (Ts ds) = some ρ' := e
      cases e1 : T d ρ with
      | none => rw [e1] at e; cases e
      | some ρ1 =>
        rw [e1, Option.bind_some] at e
        refine ⟨v, vs, rfl, h.sem G H ρ σ v d ρ1 rep q1 e1 _ fun σ1 r1 o1 w1 => h'.sem G H ρ1 σ1 vs ds ρ' r1 q2 e Q fun σ2 r2 o2 w2 => k σ2 r2 (fun i s a b => ?_) fun us hu => ?_⟩
        · obtain ⟨a1, b1⟩ := o2 i s a b
          obtain ⟨a2, b2⟩ := o1 i s a1 b
          exact ⟨a2, b1.trans b2⟩
        · rw [w2 us fun i hi => hu i (List.mem_append_right _ hi), w1 us fun i hi => hu i (List.mem_append_left _ hi)]⟩
theorem jg_tup {es : List Expr} {k : Nat} {g : TGs} {n : Nat} {Ts : Tgts} {L : List Nat} (h : JGs ca X es g Ts L) (hc : X.calm = true) (hn : (assignEach es X.env).length = n := by rfl) (hst : (assignEach es X.env).findIdx? (·.1) = none := by rfl) : JG ca X (.Tuple es k pos) (gTup X.K n g) (tgT n Ts) L :=
  ⟨pg_tup hc h.pgs hn hst, fun G H ρ σ v d ρ' rep q e Q k => by
    cases d with
    | tuple ds =>
      have e : (if ds.length = n then Ts ds ρ else none) = some ρ' := e
      split at e
      · rename_i hl
        obtain ⟨a, xs, rfl, hx, ax⟩ := Dp.tuple_v q
        exact ⟨a, xs, rfl, Ex.sqt rep.gh hx, by rw [DpAll.length ax, hl], h.sem G H ρ σ xs ds ρ' rep ax e Q k⟩
      · cases e
    | none => cases e
    | bool b => cases e
    | int b => cases e
    | str b => cases e
    | list b => cases e
    | dict b => cases e⟩
theorem jg_unl {es : List Expr} {k : Nat} {g : TGs} {n : Nat} {Ts : Tgts} {L : List Nat} (h : JGs ca X es g Ts L) (hc : X.calm = true) (hn : (assignEach es X.env).length = n := by rfl) (hst : (assignEach es X.env).findIdx? (·.1) = none := by rfl) : JG ca X (.Tuple es k pos) (gUnl X.K n g) (tgL n Ts) L :=
  ⟨pg_unl hc h.pgs hn hst, fun G H ρ σ v d ρ' rep q e Q k => by
    cases d with
    | list ds =>
      have e : (if ds.length = n then Ts ds ρ else none) = some ρ' := e
      split at e
      · rename_i hl
        obtain ⟨a, xs, rfl, hx, ax⟩ := Dp.list_v q
        exact ⟨a, xs, rfl, Ex.sql rep.gh hx, by rw [DpAll.length ax, hl], h.sem G H ρ σ xs ds ρ' rep ax e Q k⟩
      · cases e
    | none => cases e
    | bool b => cases e
    | int b => cases e
    | str b => cases e
    | tuple b => cases e
    | dict b => cases e⟩
/-- target = e -/
def fAsg (T : Tgt) (F : Env → Rs PyData) : Env → Rs Out := fun ρ => F ρ >>= fun d => match T d ρ with
  | some ρ' => .ok (.nx ρ')
  | none => .stuck
theorem ent_tgt {G0 H0 G H : Hp} {ρ ρ' : Env} {σ σ' : L2.St} (en : Ent G0 H0 G H ρ σ) (o : ∀ (i : Nat) s, ρ'[i]? = some s → s.own = true → ρ[i]? = some s ∧ σ'[i]? = σ[i]?) : Ent G0 H0 G H ρ' σ' :=
  ⟨en.nx, fun i s p e hs f => by
    obtain ⟨a, b⟩ := o i s e hs
    exact en.own i s p a hs (b ▸ f)⟩
theorem jp_asg {E : XK} {tg e : Expr} {te : TE} {g : TG} {F : Env → Rs PyData} {T : Tgt} {L : List Nat} (he : JS ca X E e te F) (hg : JG ca X tg g T L) (hs : swapsWithSole [tg] e pos.line X.env = pure false := by rfl) (hw : swappedStores [tg] e X.env = pure none := by rfl) (h1 : (assignEach [tg] X.env).map (·.2) = [assign tg X.env] := by rfl) :
    JP ca X E (.Assign [tg] e pos) (tAsg te g) (fAsg T F) :=
  ⟨ps_asg he.pe hg.pg hs hw h1, fun G0 H0 G H ρ σ rep en hns D nx rt er => he.sem.use rep hns (fun x e G' H' cl dd n => er x e G' H' cl dd (en.nx.trans n)) fun d ed e1 G' H' v n r q hk _ => by
    cases ht : T d ρ with
    | none => rw [ht] at hk; exact absurd rfl hk
    | some ρ' =>
      rw [ht] at e1
      exact hg.sem G' H' ρ σ v d ρ' r q ht _ fun σ' r' o _ => nx ρ' e1 G' H' σ' r' (ent_tgt (en.go n) o)⟩
end

/-! ### what a loop walks -/
/-- while D holds of the heap the walk gives the data ds; b: D stands as long as the whole heap does, else as long as what is shown does -/
structure WalkD (c : Pc) (b : Bool) (G1 H1 : Hp) (J : It) (ds : List PyData) : Prop where
  ex : ∃ Gd : Hp → Prop, (∀ G H, Ex G1 G → Ex G H → (b = true → Ex H1 H) → Gd H) ∧ (∀ i H, i < ds.length → Gd H → J.go i H) ∧ (∀ H, Gd H → J.stop ds.length H) ∧
    ∀ i G H x H' d, ds[i]? = some d → Gd H → Ex G1 G → Ex G H → J.yld i H x H' → ∃ G', Nx G H G' H' ∧ Dp c.K G' x d
def SemI (c : Pc) (E : XK) (b : Bool) (wi : TI) (F : Env → Rs (List PyData)) : Prop :=
  ∀ (G H : Hp) (ρ : Env) (σ : L2.St), Rep c G H ρ σ → F ρ ≠ .stuck → ∀ R : It → Hp → Prop,
    (∀ ds, F ρ = .ok ds → ∀ G' H' J, Nx G H G' H' → WalkD c b G' H' J ds → R J H') → ErrP c E G H (F ρ) → wi σ H R
structure JI (ca : Nat → Addr) (X : Cx) (E : XK) (b : Bool) (tg iter : Expr) (wi : TI) (F : Env → Rs (List PyData)) : Prop where
  pi : PI X tg iter wi
  sem : SemI ⟨X.K, ca⟩ E b wi F
def itemsL : PyData → Rs (List PyData)
  | .list ds => .ok ds
  | _ => .stuck
def itemsT : PyData → Rs (List PyData)
  | .tuple ds => .ok ds
  | _ => .stuck
def rangeD (lo hi : Int) : List PyData := (List.range (hi - lo).toNat).map fun (i : Nat) => .int (lo + i)
def small62 (i : Int) : Prop := -(2 ^ 62) ≤ i ∧ i < 2 ^ 62
instance (i : Int) : Decidable (small62 i) := by unfold small62; infer_instance
def rng1 : List PyData → Rs (List PyData)
  | [.int j] => if small62 j then .ok (rangeD 0 j) else .stuck
  | _ => .stuck
def rng2 : List PyData → Rs (List PyData)
  | [.int i, .int j] => if small62 i ∧ small62 j then .ok (rangeD i j) else .stuck
  | _ => .stuck
def pairD (a b : PyData) : PyData := .tuple [a, b]
def zipL (xs ys : List PyData) : List PyData := List.zipWith pairD xs ys
/-- zip: two lists, or two tuples -/
def zipD : List PyData → Rs (List PyData)
  | [.list xs, .list ys] => .ok (zipL xs ys)
  | [.tuple xs, .tuple ys] => .ok (zipL xs ys)
  | _ => .stuck
def enumL (xs : List PyData) : List PyData := (xs.zipIdx).map fun p => pairD (.int p.2) p.1
def enumD : List PyData → Rs (List PyData)
  | [.list xs] => .ok (enumL xs)
  | _ => .stuck
def revD : PyData → Rs (List PyData)
  | .list ds => .ok ds.reverse
  | .tuple ds => .ok ds.reverse
  | _ => .stuck
def fIt {α : Type} (f : α → Rs (List PyData)) (F : Env → Rs α) : Env → Rs (List PyData) := fun ρ => F ρ >>= f
theorem walkd_same {c : Pc} {b : Bool} {G1 H1 : Hp} {J : It} {ds : List PyData} {xs : List V} (Gd : Hp → Prop) (Y : Nat → Hp → V → Hp → Prop) (hg : ∀ G H, Ex G1 G → Ex G H → (b = true → Ex H1 H) → Gd H) (a : DpAll c.K G1 xs ds)
    (w : Walk J xs.length Gd Y) (hy : ∀ i H x H', Y i H x H' → H' = H ∧ xs[i]? = some x) : WalkD c b G1 H1 J ds := by
  have hl := DpAll.length a
  refine ⟨Gd, hg, fun i H hi g => w.goes i H (by omega) g, fun H g => by rw [← hl]; exact w.stops H g, fun i G H x H' d hd g x1 x2 hyl => ?_⟩
  have hi : i < xs.length := by rw [hl]; exact (List.getElem?_eq_some_iff.mp hd).1
  obtain ⟨rfl, hx⟩ := hy i H x H' (w.yields i H x H' hi g hyl)
  obtain ⟨d', e1, q⟩ := DpAll.get a hx
  rw [hd] at e1
  cases e1
  exact ⟨G, Nx.refl x2, Dp.ex x1 q⟩
/-- a pair is laid and shown -/
theorem pair_new {c : Pc} {G H H' : Hp} {T : Addr} {x y : V} {a b : PyData} (e : Ex G H) (h : H T = none) (e' : H' = upd H T (.tup [x, y])) (da : Dp c.K G x a) (db : Dp c.K G y b) : ∃ G', Nx G H G' H' ∧ Dp c.K G' (.ref T) (pairD a b) := by
  subst e'
  have x1 : Ex G (upd G T (.tup [x, y])) := Ex.new (e.back h)
  exact ⟨upd G T (.tup [x, y]), Nx.new e h, .tup (.inl (.inl upd_same)) (.cons (Dp.ex x1 da) (.cons (Dp.ex x1 db) .nil))⟩
theorem zipL_get {xs ys : List PyData} {i : Nat} {d : PyData} (h : (zipL xs ys)[i]? = some d) : ∃ a b, xs[i]? = some a ∧ ys[i]? = some b ∧ d = pairD a b := by
  unfold zipL at h
  rw [List.getElem?_zipWith] at h
  cases hx : xs[i]? with
  | none => rw [hx] at h; simp at h
  | some a =>
    cases hy : ys[i]? with
    | none => rw [hx, hy] at h; simp at h
    | some b =>
      rw [hx, hy] at h
      simp at h
      exact ⟨a, b, rfl, rfl, h.symm⟩
section
variable {ca : Nat → Addr} {X : Cx} {E : XK} {tg e e2 : Expr} {te : TE} {ta : TA} {F : Env → Rs PyData} {Fs : Env → Rs (List PyData)} {p pos tpos : Pos} {elts : List Expr} {kk : Nat}
/-- over a list that is shown -/
theorem ji_list (h : JS ca X E e te F) : JI ca X E false tg e (iList X.K te) (fIt itemsL F) :=
  ⟨pi_list h.pe, fun G H ρ σ rep hns R ok er => h.sem.use rep hns er fun d ed e1 G' H' v n r q hk _ => by
    cases d with
    | list ds =>
      obtain ⟨a, xs, rfl, hx, ax⟩ := Dp.list_v q
      exact ⟨a, rfl, ⟨xs, Ex.sql n.gh hx⟩, ok ds e1 G' H' _ n (walkd_same _ _ (fun G2 H2 z1 z2 _ => Ex.sql z2 (Ex.sql z1 hx)) ax walk_list fun i H x H' y => y)⟩
    | none => exact absurd rfl hk
    | bool b => exact absurd rfl hk
    | int b => exact absurd rfl hk
    | str b => exact absurd rfl hk
    | tuple b => exact absurd rfl hk
    | dict b => exact absurd rfl hk⟩
/-- over a list that stands still -/
theorem ji_listB (h : JB ca X E e te F) : JI ca X E true tg e (iList X.K te) (fIt itemsL F) :=
  ⟨pi_list h.pe, fun G H ρ σ rep hns R ok er => h.sem.use rep hns er fun d ed e1 G' H' v n r q hk _ => by
    cases d with
    | list ds =>
      obtain ⟨a, xs, rfl, hx, ax⟩ := db_list n.gh q
      exact ⟨a, rfl, ⟨xs, hx⟩, ok ds e1 G' H' _ n (walkd_same _ _ (fun G2 H2 z1 z2 z3 => Ex.sql (z3 rfl) hx) ax walk_list fun i H x H' y => y)⟩
    | none => exact absurd rfl hk
    | bool b => exact absurd rfl hk
    | int b => exact absurd rfl hk
    | str b => exact absurd rfl hk
    | tuple b => exact absurd rfl hk
    | dict b => exact absurd rfl hk⟩
theorem ji_tup {b : Bool} (h : JS ca X E e te F) : JI ca X E b tg e (iTup X.K te) (fIt itemsT F) :=
  ⟨pi_tup h.pe, fun G H ρ σ rep hns R ok er => h.sem.use rep hns er fun d ed e1 G' H' v n r q hk _ => by
    cases d with
    | tuple ds =>
      obtain ⟨a, xs, rfl, hx, ax⟩ := Dp.tuple_v q
      exact ⟨a, rfl, ⟨xs, Ex.sqt n.gh hx⟩, ok ds e1 G' H' _ n (walkd_same _ _ (fun G2 H2 z1 z2 _ => Ex.sqt z2 (Ex.sqt z1 hx)) ax walk_tup fun i H x H' y => y)⟩
    | none => exact absurd rfl hk
    | bool b => exact absurd rfl hk
    | int b => exact absurd rfl hk
    | str b => exact absurd rfl hk
    | list b => exact absurd rfl hk
    | dict b => exact absurd rfl hk⟩
theorem walkd_range {c : Pc} {b : Bool} {G1 H1 : Hp} {lo hi : Int} : WalkD c b G1 H1 (Itr lo (hi - lo).toNat) (rangeD lo hi) := by
  have hl : (rangeD lo hi).length = (hi - lo).toNat := by unfold rangeD; rw [List.length_map, List.length_range]
  refine ⟨fun _ => True, fun _ _ _ _ _ => trivial, fun i H hi' _ => by rw [hl] at hi'; exact hi', fun H _ => by rw [hl]; exact Nat.le_refl _, fun i G H x H' d hd _ x1 x2 hyl => ?_⟩
  obtain ⟨rfl, rfl⟩ := hyl
  unfold rangeD at hd
  rw [List.getElem?_map] at hd
  have hi' : i < (hi - lo).toNat := by rw [← hl]; exact (by
    have := (List.getElem?_eq_some_iff.mp (show (rangeD lo hi)[i]? = some d by unfold rangeD; rw [List.getElem?_map]; exact hd)).1
    exact this)
  rw [List.getElem?_range hi'] at hd
  cases hd
  exact ⟨G, Nx.refl x2, .int _⟩
theorem ji_range1 {a : Expr} {b : Bool} (ha : JA ca X E [a] ta Fs) (hm : X.mg "range" = none) (hg : Gl X "range" := by rfl) (hs : starEach [a] X.env = [(false, eval a X.env)] := by rfl) : JI ca X E b tg (.Call (.Name "range" p) [a] [] pos) (iRng1 ta) (fIt rng1 Fs) :=
  ⟨pi_range1 hg hm ha.pa hs, fun G H ρ σ rep hns R ok er => ha.sem.use rep hns er fun d ed e1 G' H' v n r q hk _ => by
    have q : DpAll X.K G' v d := q
    match d, v, q with
    | [.int j], _, .cons q .nil =>
      by_cases hj : small62 j
      · have e2 : rng1 [.int j] = .ok (rangeD 0 j) := if_pos hj
        refine ⟨j, by rw [Dp.int_v q], hj.1, hj.2, ok _ (e1.trans e2) G' H' _ n ?_⟩
        have := walkd_range (c := ⟨X.K, ca⟩) (b := b) (G1 := G') (H1 := H') (lo := 0) (hi := j)
        rw [Int.sub_zero] at this
        exact this
      · exact absurd (if_neg hj) hk
    | [], _, _ => exact absurd rfl hk
    | [.none], _, _ => exact absurd rfl hk
    | [.bool _], _, _ => exact absurd rfl hk
    | [.str _], _, _ => exact absurd rfl hk
    | [.list _], _, _ => exact absurd rfl hk
    | [.tuple _], _, _ => exact absurd rfl hk
    | [.dict _], _, _ => exact absurd rfl hk
    | a1 :: a2 :: as, _, _ => exact absurd (show rng1 (a1 :: a2 :: as) = .stuck by cases a1 <;> rfl) hk⟩
theorem rng2_ok {ds rs : List PyData} (h : rng2 ds = .ok rs) : ∃ i j, ds = [.int i, .int j] ∧ small62 i ∧ small62 j ∧ rs = rangeD i j := by
  unfold rng2 at h
  split at h
  · split at h
    · rename_i h2
      cases h
      exact ⟨_, _, rfl, h2.1, h2.2, rfl⟩
    · cases h
  · cases h
theorem ji_range2 {a a2 : Expr} {b : Bool} (ha : JA ca X E [a, a2] ta Fs) (hm : X.mg "range" = none) (hg : Gl X "range" := by rfl) (hs : starEach [a, a2] X.env = [(false, eval a X.env), (false, eval a2 X.env)] := by rfl) (hs2 : starEach [a2] X.env = [(false, eval a2 X.env)] := by rfl) :
    JI ca X E b tg (.Call (.Name "range" p) [a, a2] [] pos) (iRng2 ta) (fIt rng2 Fs) :=
  ⟨pi_range2 hg hm ha.pa hs hs2, fun G H ρ σ rep hns R ok er => ha.sem.use rep hns er fun d ed e1 G' H' v n r q hk _ => by
    have q : DpAll X.K G' v d := q
    cases h2 : rng2 d with
    | stuck => exact absurd h2 hk
    | err x => unfold rng2 at h2; split at h2 <;> (try split at h2) <;> cases h2
    | ok rs =>
      obtain ⟨i, j, rfl, hi, hj, rfl⟩ := rng2_ok h2
      match v, q with
      | _, .cons q1 (.cons q2 .nil) => exact ⟨i, j, by rw [Dp.int_v q1, Dp.int_v q2], ⟨hi.1, hi.2, hj.1, hj.2⟩, ok _ (e1.trans h2) G' H' _ n walkd_range⟩⟩
theorem zipD_ok {ds rs : List PyData} (h : zipD ds = .ok rs) : ∃ xs ys, (ds = [.list xs, .list ys] ∨ ds = [.tuple xs, .tuple ys]) ∧ rs = zipL xs ys := by
  unfold zipD at h
  split at h
  · cases h; exact ⟨_, _, .inl rfl, rfl⟩
  · cases h; exact ⟨_, _, .inr rfl, rfl⟩
  · cases h
/-- over zip of two lists or of two tuples, shown -/
theorem ji_zip {b : Bool} (ha : JA ca X E [e, e2] ta Fs) (hm : X.mg "zip" = none) (hg : Gl X "zip" := by rfl) (hs : starEach [e, e2] X.env = (false, eval e X.env) :: starEach [e2] X.env := by rfl) (hpl : (backTo pos (starEach [e2] X.env)).any (·.1) = false := by rfl) :
    JI ca X E b (.Tuple elts kk tpos) (.Call (.Name "zip" p) [e, e2] [] pos) (RZ.iZipA X.K ta) (fIt zipD Fs) :=
  ⟨RZ.pi_zipA hg hm ha.pa hs hpl, fun G H ρ σ rep hns R ok er => ha.sem.use rep hns er fun d ed e1 G' H' v n r q hk _ => by
    have q : DpAll X.K G' v d := q
    cases h2 : zipD d with
    | stuck => exact absurd h2 hk
    | err x => unfold zipD at h2; split at h2 <;> cases h2
    | ok rs =>
      obtain ⟨xs, ys, hd, rfl⟩ := zipD_ok h2
      have hlen : (zipL xs ys).length = min xs.length ys.length := by unfold zipL; exact List.length_zipWith
      rcases hd with rfl | rfl
      · match v, q with
        | _, .cons q1 (.cons q2 .nil) =>
          obtain ⟨a, vs, rfl, ha1, aa⟩ := Dp.list_v q1
          obtain ⟨b2, ws, rfl, hb1, ab⟩ := Dp.list_v q2
          have la := DpAll.length aa
          have lb := DpAll.length ab
          refine ⟨a, b2, vs, ws, rfl, .inl ⟨Ex.sql n.gh ha1, Ex.sql n.gh hb1, ok _ (e1.trans h2) G' H' _ n ⟨fun H => SqL X.K H a vs ∧ SqL X.K H b2 ws, fun G2 H2 z1 z2 _ => ⟨Ex.sql z2 (Ex.sql z1 ha1), Ex.sql z2 (Ex.sql z1 hb1)⟩, ?_, ?_, ?_⟩⟩⟩
          · intro i H hi g
            exact (walk_zip (K := X.K) (a := a) (b := b2) (xs := vs) (ys := ws) rfl).goes i H (by rw [hlen] at hi; omega) g
          · intro H g
            rw [hlen, ← la, ← lb]
            exact (walk_zip (K := X.K) (a := a) (b := b2) (xs := vs) (ys := ws) rfl).stops H g
          · intro i G2 H2 x H3 d hd g z1 z2 hy
            obtain ⟨c1, c2, h1, h2, rfl⟩ := zipL_get hd
            have hi : i < min vs.length ws.length := by
              have a1 := (List.getElem?_eq_some_iff.mp h1).1
              have a2 := (List.getElem?_eq_some_iff.mp h2).1
              omega
            obtain ⟨T, x1, y1, rfl, hT, e3, e4, e5⟩ := (walk_zip (K := X.K) (a := a) (b := b2) (xs := vs) (ys := ws) rfl).yields i H2 x H3 hi g hy
            obtain ⟨d1, f1, g1⟩ := DpAll.get aa e4
            obtain ⟨d2, f2, g2⟩ := DpAll.get ab e5
            rw [h1] at f1
            rw [h2] at f2
            cases f1
            cases f2
            exact pair_new z2 hT e3 (Dp.ex z1 g1) (Dp.ex z1 g2)
      · match v, q with
        | _, .cons q1 (.cons q2 .nil) =>
          obtain ⟨a, vs, rfl, ha1, aa⟩ := Dp.tuple_v q1
          obtain ⟨b2, ws, rfl, hb1, ab⟩ := Dp.tuple_v q2
          have la := DpAll.length aa
          have lb := DpAll.length ab
          refine ⟨a, b2, vs, ws, rfl, .inr ⟨Ex.sqt n.gh ha1, Ex.sqt n.gh hb1, ok _ (e1.trans h2) G' H' _ n ⟨fun H => SqT X.K H a vs ∧ SqT X.K H b2 ws, fun G2 H2 z1 z2 _ => ⟨Ex.sqt z2 (Ex.sqt z1 ha1), Ex.sqt z2 (Ex.sqt z1 hb1)⟩, ?_, ?_, ?_⟩⟩⟩
          · intro i H hi g
            have l1 : i < vs.length := by rw [hlen] at hi; omega
            have l2 : i < ws.length := by rw [hlen] at hi; omega
            exact ⟨vs, ws, vs[i], ws[i], g.1, g.2, List.getElem?_eq_getElem l1, List.getElem?_eq_getElem l2⟩
          · intro H g
            exact ⟨vs, ws, g.1, g.2, by rw [hlen]; omega⟩
          · intro i G2 H2 x H3 d hd g z1 z2 hy
            obtain ⟨c1, c2, h1, h2, rfl⟩ := zipL_get hd
            obtain ⟨T, x1, y1, rfl, hT, e3, e4, e5⟩ := hy
            obtain ⟨d1, f1, g1⟩ := DpAll.get aa (e4 vs g.1)
            obtain ⟨d2, f2, g2⟩ := DpAll.get ab (e5 ws g.2)
            rw [h1] at f1
            rw [h2] at f2
            cases f1
            cases f2
            exact pair_new z2 hT e3 (Dp.ex z1 g1) (Dp.ex z1 g2)⟩
theorem enumD_ok {ds rs : List PyData} (h : enumD ds = .ok rs) : ∃ xs, ds = [.list xs] ∧ rs = enumL xs := by
  unfold enumD at h
  split at h
  · cases h; exact ⟨_, rfl, rfl⟩
  · cases h
theorem enumL_get {xs : List PyData} {i : Nat} {d : PyData} (h : (enumL xs)[i]? = some d) : ∃ a, xs[i]? = some a ∧ d = pairD (.int i) a := by
  unfold enumL at h
  rw [List.getElem?_map, List.getElem?_zipIdx] at h
  cases hx : xs[i]? with
  | none => rw [hx] at h; cases h
  | some a =>
    rw [hx] at h
    simp at h
    exact ⟨a, rfl, h.symm⟩
theorem ji_enum {b : Bool} (ha : JA ca X E [e] ta Fs) (hm : X.mg "enumerate" = none) (hg : Gl X "enumerate" := by rfl) (hs : starEach [e] X.env = [(false, eval e X.env)] := by rfl) :
    JI ca X E b (.Tuple elts kk tpos) (.Call (.Name "enumerate" p) [e] [] pos) (iEnum X.K ta) (fIt enumD Fs) :=
  ⟨pi_enum hg hm ha.pa hs, fun G H ρ σ rep hns R ok er => ha.sem.use rep hns er fun d ed e1 G' H' v n r q hk _ => by
    have q : DpAll X.K G' v d := q
    cases h2 : enumD d with
    | stuck => exact absurd h2 hk
    | err x => unfold enumD at h2; split at h2 <;> cases h2
    | ok rs =>
      obtain ⟨xs, rfl, rfl⟩ := enumD_ok h2
      have hlen : (enumL xs).length = xs.length := by unfold enumL; rw [List.length_map, List.length_zipIdx]
      match v, q with
      | _, .cons q1 .nil =>
        obtain ⟨a, vs, rfl, ha1, aa⟩ := Dp.list_v q1
        have la := DpAll.length aa
        refine ⟨a, vs, rfl, Ex.sql n.gh ha1, ok _ (e1.trans h2) G' H' _ n ⟨fun H => SqL X.K H a vs, fun G2 H2 z1 z2 _ => Ex.sql z2 (Ex.sql z1 ha1), ?_, ?_, ?_⟩⟩
        · intro i H hi g
          exact walk_enum.goes i H (by rw [hlen] at hi; omega) g
        · intro H g
          rw [hlen, ← la]
          exact walk_enum.stops H g
        · intro i G2 H2 x H3 d hd g z1 z2 hy
          obtain ⟨c1, h1, rfl⟩ := enumL_get hd
          have hi : i < vs.length := by rw [la]; exact (List.getElem?_eq_some_iff.mp h1).1
          obtain ⟨T, x1, y1, rfl, hT, e3, e4, e5⟩ := walk_enum.yields i H2 x H3 hi g hy
          obtain ⟨d1, f1, g1⟩ := DpAll.get aa e5
          rw [h1] at f1
          cases f1
          cases e4
          exact pair_new z2 hT e3 (.int _) (Dp.ex z1 g1)⟩
theorem ji_rev {b : Bool} (h : JS ca X E e te F) (hm : X.mg "reversed" = none) (hg : Gl X "reversed" := by rfl) (hs : starEach [e] X.env = (false, eval e X.env) :: starEach [] X.env := by rfl) : JI ca X E b tg (.Call (.Name "reversed" p) [e] [] pos) (RT.iRevA X.K te) (fIt revD F) :=
  ⟨RT.pi_revA hg hm h.pe hs, fun G H ρ σ rep hns R ok er => h.sem.use rep hns er fun d ed e1 G' H' v n r q hk _ => by
    have rev : ∀ {ds : List PyData} {vs : List V} {i : Nat} {x : V} {d : PyData}, DpAll X.K G' vs ds → vs[vs.length - 1 - i]? = some x → ds.reverse[i]? = some d → Dp X.K G' x d := fun {ds vs i x d} a hx hd => by
      have hl := DpAll.length a
      have hi : i < ds.length := by have := (List.getElem?_eq_some_iff.mp hd).1; rwa [List.length_reverse] at this
      rw [List.getElem?_reverse hi, ← hl] at hd
      obtain ⟨d', e1, q⟩ := DpAll.get a hx
      rw [hd] at e1
      cases e1
      exact q
    cases d with
    | list ds =>
      obtain ⟨a, xs, rfl, hx, ax⟩ := Dp.list_v q
      have la := DpAll.length ax
      refine ⟨a, xs, rfl, .inl ⟨Ex.sql n.gh hx, ok _ e1 G' H' _ n ⟨fun H => SqL X.K H a xs, fun G2 H2 z1 z2 _ => Ex.sql z2 (Ex.sql z1 hx), ?_, ?_, ?_⟩⟩⟩
      · intro i H hi g
        exact walk_rev.goes i H (by rw [List.length_reverse] at hi; omega) g
      · intro H g
        rw [List.length_reverse, ← la]
        exact walk_rev.stops H g
      · intro i G2 H2 x H3 d hd g z1 z2 hy
        have hi : i < xs.length := by rw [la]; have := (List.getElem?_eq_some_iff.mp hd).1; rwa [List.length_reverse] at this
        obtain ⟨rfl, e3⟩ := walk_rev.yields i H2 x H3 hi g hy
        exact ⟨G2, Nx.refl z2, Dp.ex z1 (rev ax e3 hd)⟩
    | tuple ds =>
      obtain ⟨a, xs, rfl, hx, ax⟩ := Dp.tuple_v q
      have la := DpAll.length ax
      refine ⟨a, xs, rfl, .inr ⟨Ex.sqt n.gh hx, ok _ e1 G' H' _ n ⟨fun H => SqT X.K H a xs, fun G2 H2 z1 z2 _ => Ex.sqt z2 (Ex.sqt z1 hx), ?_, ?_, ?_⟩⟩⟩
      · intro i H hi g
        have hi : i < xs.length := by rw [List.length_reverse] at hi; omega
        exact ⟨hi, xs, xs[xs.length - 1 - i], g, List.getElem?_eq_getElem (by omega)⟩
      · intro H g
        show xs.length ≤ ds.reverse.length
        rw [List.length_reverse, la]
        exact Nat.le_refl _
      · intro i G2 H2 x H3 d hd g z1 z2 hy
        obtain ⟨rfl, e3⟩ := hy
        exact ⟨G2, Nx.refl z2, Dp.ex z1 (rev ax (e3 xs g) hd)⟩
    | none => exact absurd rfl hk
    | bool b => exact absurd rfl hk
    | int b => exact absurd rfl hk
    | str b => exact absurd rfl hk
    | dict b => exact absurd rfl hk⟩
end
/-! ### for -/
/-- H0 with all that is shown now -/
def ovl (H0 G : Hp) : Hp := fun a => match G a with
  | some o => some o
  | none => H0 a
theorem ovl_some {H0 G : Hp} {a : Addr} {o : HO} (h : G a = some o) : ovl H0 G a = some o := by unfold ovl; rw [h]
theorem ovl_none {H0 G : Hp} {a : Addr} (h : G a = none) : ovl H0 G a = H0 a := by unfold ovl; rw [h]
theorem ovl_ex {G0 H0 G H : Hp} (n : Nx G0 H0 G H) : Ex H0 (ovl H0 G) := fun a o h => by
  cases hg : G a with
  | none => rw [ovl_none hg]; exact h
  | some u =>
    rw [ovl_some hg]
    have h1 := n.gh a u hg
    rw [n.h a o h] at h1
    exact h1.symm
theorem nx_up {G0 H0 G H G2 H2 : Hp} (n : Nx G0 H0 G H) (n2 : Nx G0 H0 G2 H2) (x : Ex G G2) : Nx G (ovl H0 G) G2 H2 := by
  refine ⟨x, fun a o h => ?_, n2.gh, fun a h g => ?_⟩
  · cases hg : G a with
    | none => rw [ovl_none hg] at h; exact n2.h a o h
    | some u => rw [ovl_some hg] at h; cases h; exact n2.gh a _ (x a _ hg)
  · rw [ovl_none g] at h
    exact n2.fr a h (n.g.back g)
theorem nx_down {G0 H0 G H G3 H3 : Hp} (n : Nx G0 H0 G H) (m : Nx G (ovl H0 G) G3 H3) : Nx G0 H0 G3 H3 := by
  refine ⟨n.g.trans m.g, (ovl_ex n).trans m.h, m.gh, fun a h g => ?_⟩
  rcases n.fr a h g with q | ⟨xs, q⟩
  · exact m.fr a (by rw [ovl_none q]; exact h) q
  · exact .inr ⟨xs, m.g a _ q⟩
theorem ent_up {G0 H0 G H G2 H2 : Hp} {ρ : Env} {σ : L2.St} (c : Pc) (n : Nx G0 H0 G H) (x : Ex G G2) (r : Rep c G2 H2 ρ σ) (e : Ent G0 H0 G2 H2 ρ σ) : Ent G (ovl H0 G) G2 H2 ρ σ :=
  ⟨nx_up n e.nx x, fun i s p h1 h2 h3 => by
    have g : G2 p = none := by
      obtain ⟨o, e1, q⟩ := r.sl i s h1
      rw [h3] at e1
      cases e1
      cases s with
      | ol ds => obtain ⟨b, xs, z, g, _⟩ := q; cases z; exact g
      | od ds => obtain ⟨b, xs, z, g, _⟩ := q; cases z; exact g
      | no => cases h2
      | sh d => cases h2
      | exn x => cases h2
    rw [ovl_none (x.back g)]
    exact e.own i s p h1 h2 h3⟩
theorem ent_down {G0 H0 G H G3 H3 : Hp} {ρ : Env} {σ : L2.St} (n : Nx G0 H0 G H) (e : Ent G (ovl H0 G) G3 H3 ρ σ) : Ent G0 H0 G3 H3 ρ σ :=
  ⟨nx_down n e.nx, fun i s p h1 h2 h3 => (ovl_ex n).back (e.own i s p h1 h2 h3)⟩
theorem rv_down {c : Pc} {G0 H0 G H G3 H3 : Hp} {v : V} {s : Sl} (n : Nx G0 H0 G H) (h : RV c G (ovl H0 G) G3 H3 v s) : RV c G0 H0 G3 H3 v s := by
  cases s with
  | no => exact h
  | sh d => exact h
  | ol ds => obtain ⟨p, xs, e, h1, q⟩ := h; exact ⟨p, xs, e, (ovl_ex n).back h1, q⟩
  | od ds => obtain ⟨p, xs, e, h1, q⟩ := h; exact ⟨p, xs, e, (ovl_ex n).back h1, q⟩
  | exn x => exact h
def forF (T : Tgt) (B : Env → Rs Out) : List PyData → Env → Rs Out
  | [], ρ => .ok (.nx ρ)
  | d :: ds, ρ => match T d ρ with
    | some ρ' => after (B ρ') (forF T B ds)
    | none => .stuck
def fFor (F : Env → Rs (List PyData)) (T : Tgt) (B : Env → Rs Out) : Env → Rs Out := fun ρ => F ρ >>= fun ds => forF T B ds ρ
section
variable {ca : Nat → Addr} {X : Cx} {E : XK} {pos : Pos}
theorem jp_for {tg iter : Expr} {body : List Stmt} {wi : TI} {g : TG} {tb : TS} {F : Env → Rs (List PyData)} {T : Tgt} {L : List Nat} {B : Env → Rs Out} (hi : JI ca X E false tg iter wi F) (hg : JG ca X tg g T L) (hb : JPs ca X E body tb B)
    (hp : PassesOwn (model X.prog X.w) X.A X.env X.xe) (hc : X.calm = true) (hs : ∀ x, foldedSetIterable iter X.env x = pure x := by intro _; rfl) : JP ca X E (.For tg iter body [] pos) (tFor wi g tb) (fFor F T B) := by
  refine ⟨ps_for hp hc hi.pi hg.pg hb.ps hs, fun G0 H0 G H ρ σ rep en hns D nx rt er => ?_⟩
  refine hi.sem G H ρ σ rep (fun z => hns (by unfold fFor; rw [z]; rfl)) _ (fun ds ed G' H' J n wd => ?_) fun x e G' H' cl dd n => er x (by unfold fFor; rw [e]; rfl) G' H' cl dd (en.nx.trans n)
  have e0 : fFor F T B ρ = forF T B ds ρ := by unfold fFor; rw [ed]; rfl
  have n0 : Nx G0 H0 G' H' := en.nx.trans n
  obtain ⟨Gd, hgd, goes, stops, ylds⟩ := wd.ex
  refine ⟨fun i m σ1 H1 => m = ds.length - i ∧ i ≤ ds.length ∧ ∃ G1 ρ1, Rep ⟨X.K, ca⟩ G1 H1 ρ1 σ1 ∧ Ent G' (ovl H0 G') G1 H1 ρ1 σ1 ∧ forF T B (ds.drop i) ρ1 = fFor F T B ρ,
    ⟨ds.length, rfl, Nat.zero_le _, G', ρ, rep.nx n, ent_up ⟨X.K, ca⟩ n0 (Ex.refl _) (rep.nx n) (en.go n), e0.symm⟩, fun i m σ1 H1 h => ?_⟩
  obtain ⟨rfl, hil, G1, ρ1, rep1, en1, hf⟩ := h
  have gd := hgd G1 H1 en1.nx.g rep1.gh (fun z => nomatch z)
  by_cases hlt : i < ds.length
  · refine .inr ⟨goes i H1 hlt gd, ?_⟩
    have hd : ds[i]? = some ds[i] := List.getElem?_eq_getElem hlt
    rw [List.drop_eq_getElem_cons hlt] at hf
    unfold forF at hf
    cases ht : T ds[i] ρ1 with
    | none => rw [ht] at hf; exact absurd hf.symm hns
    | some ρ2 =>
      rw [ht] at hf
      have hf : after (B ρ2) (forF T B (ds.drop (i + 1))) = fFor F T B ρ := hf
      refine ⟨fun σ2 H2 => ∃ G2 ρ3, Rep ⟨X.K, ca⟩ G2 H2 ρ3 σ2 ∧ Ent G' (ovl H0 G') G2 H2 ρ3 σ2 ∧ forF T B (ds.drop (i + 1)) ρ3 = fFor F T B ρ, fun σ2 H2 ⟨G2, ρ3, a1, a2, a4⟩ => ⟨ds.length - (i + 1), by omega, rfl, hlt, G2, ρ3, a1, a2, a4⟩, fun x H2 hy => ?_⟩
      obtain ⟨G2, n2, q2⟩ := ylds i G1 H1 x H2 _ hd gd en1.nx.g rep1.gh hy
      have r2 := rep1.nx n2
      refine hg.sem G2 H2 ρ1 σ1 x _ ρ2 r2 q2 ht _ fun σ2 r3 o _ => ?_
      have en2 : Ent G' (ovl H0 G') G2 H2 ρ2 σ2 := ent_tgt (en1.go n2) o
      exact hb.sem.use (k := forF T B (ds.drop (i + 1))) r3 en2 (by rw [hf]; exact hns) (fun ρ' e3 e4 G3 H3 σ3 r4 en3 => ⟨G3, ρ', r4, en3, e4.symm.trans hf⟩) (fun s e3 G3 H3 v n3 q3 => rt s (hf.symm.trans e3) G3 H3 v (nx_down n0 n3) (rv_down n0 q3))
        fun x e G3 H3 cl dd n3 => er x (hf.symm.trans e) G3 H3 cl dd (nx_down n0 n3)
  · have hi2 : i = ds.length := by omega
    subst hi2
    rw [List.drop_length] at hf
    exact .inl ⟨stops H1 gd, nx ρ1 hf.symm G1 H1 σ1 rep1 (ent_down n0 en1)⟩
end
/-! ### comprehensions -/
def wipeE (ρ : Env) : List Nat → Env
  | [] => ρ
  | v :: vs => (wipeE ρ vs).set v .no
theorem wipe_rep {c : Pc} {G H : Hp} {ρ : Env} {σ : L2.St} (r : Rep c G H ρ σ) : ∀ vs : List Nat, Rep c G H (wipeE ρ vs) (wipe σ vs)
  | [] => r
  | v :: vs => (wipe_rep r vs).set rfl trivial
/-- the items kept -/
def lcF (T : Tgt) (C : Env → Rs Bool) (F : Env → Rs PyData) (ρ0 : Env) : List PyData → List PyData → Rs (List PyData)
  | [], acc => .ok acc
  | d :: ds, acc => match T d ρ0 with
    | some ρ => C ρ >>= fun b => if b = true then F ρ >>= fun y => (if acc.length < lim then lcF T C F ρ0 ds (acc ++ [y]) else .stuck) else lcF T C F ρ0 ds acc
    | none => .stuck
def fLc (S : Env → Rs (List PyData)) (T : Tgt) (C : Env → Rs Bool) (F : Env → Rs PyData) (vs : List Nat) : Env → Rs Sl := fun ρ => S ρ >>= fun ds => lcF T C F (wipeE ρ vs) ds [] >>= fun r => .ok (.ol r)
def fYes : Env → Rs Bool := fun _ => .ok true
/-- the tests of a clause -/
structure JC (ca : Nat → Addr) (X : Cx) (E : XK) (ifs : List Expr) (t : TT) (F : Env → Rs Bool) : Prop where
  pts : PTs X ifs t
  sem : SemG ⟨X.K, ca⟩ E t F RT
theorem jc_nil {ca : Nat → Addr} {X : Cx} {E : XK} : JC ca X E [] tYes fYes := ⟨pts_nil, fun G H ρ σ rep hns Q ok er => ok true rfl G H true (Nx.refl rep.gh) rfl⟩
theorem jc_one {ca : Nat → Addr} {X : Cx} {E : XK} {c : Expr} {t : TT} {F : Env → Rs Bool} (h : JT ca X E c t F) : JC ca X E [c] t F := ⟨pts_one h.pt, h.sem⟩
theorem lc_sem {c : Pc} {E : XK} {wi : TI} {g : TG} {tt : TT} {te : TE} {S : Env → Rs (List PyData)} {T : Tgt} {L vs : List Nat} {C : Env → Rs Bool} {F : Env → Rs PyData} (hi : SemI c E true wi S) (hg : SemTG c g T L) (ht : SemG c E0 tt C RT) (he : SemG c E0 te F (RS c))
    (hL : ∀ i ∈ L, i ∈ vs) : ∀ (G H : Hp) (ρ : Env) (σ : L2.St), Rep c G H ρ σ → (∃ r, fLc S T C F vs ρ = .ok r) → ∀ Q : VK, (∀ a, fLc S T C F vs ρ = .ok a → ∀ G' H' v, Nx G H G' H' → RV c G H G' H' v a → Q v H') → tLc wi g tt te vs σ H Q := by
  intro G H ρ σ rep hr Q ok
  obtain ⟨r, hr⟩ := hr
  cases hS : S ρ with
  | stuck => unfold fLc at hr; rw [hS] at hr; cases hr
  | err x => unfold fLc at hr; rw [hS] at hr; cases hr
  | ok ds0 =>
  refine hi G H ρ σ rep (by rw [hS]; exact fun z => nomatch z) _ (fun ds ed G' H' J n wd => ?_) fun x e => by rw [hS] at e; cases e
  rw [hS] at ed
  cases ed
  cases hl : lcF T C F (wipeE ρ vs) ds0 [] with
  | stuck => unfold fLc at hr; rw [hS, ok_bind, hl] at hr; cases hr
  | err x => unfold fLc at hr; rw [hS, ok_bind, hl] at hr; cases hr
  | ok res =>
  have e0 : fLc S T C F vs ρ = .ok (.ol res) := by unfold fLc; rw [hS, ok_bind, hl]; rfl
  obtain ⟨Gd, hgd, goes, stops, ylds⟩ := wd.ex
  intro Dl hD
  have gD : G' Dl = none := n.gh.back hD
  refine ⟨fun i m H1 => m = ds0.length - i ∧ i ≤ ds0.length ∧ ∃ G1 acc xs, Nx G' (upd H' Dl (.lst [])) G1 (upd H1 Dl (.lst [])) ∧ Ex G1 H1 ∧ H1 Dl = some (.lst xs) ∧ DpAll c.K G1 xs acc ∧ lcF T C F (wipeE ρ vs) (ds0.drop i) acc = .ok res,
    ⟨ds0.length, rfl, Nat.zero_le _, G', [], [], ?_, ?_, upd_same, .nil, hl⟩, fun i m H1 h => ?_⟩
  · rw [upd_upd]
    exact Nx.refl (n.gh.trans (Ex.new hD))
  · exact n.gh.trans (Ex.new hD)
  obtain ⟨rfl, hil, G1, acc, xs, n1, x1, hx, ax, hf⟩ := h
  have g1D : G1 Dl = none := by
    rcases n1.fr Dl (by rw [upd_same]; exact fun z => nomatch z) gD with q | ⟨ys, q⟩
    · exact q
    · have := n1.gh Dl _ q
      rw [upd_same] at this
      cases this
  have old : ∀ a o, H' a = some o → H1 a = some o := fun a o h => by
    have hne : a ≠ Dl := ne_of_none h hD
    have := n1.h a o (by rw [upd_ne hne]; exact h)
    rwa [upd_ne hne] at this
  have nx1 : Nx G H G1 H1 := by
    refine ⟨n.g.trans n1.g, n.h.trans old, x1, fun a h g => ?_⟩
    rcases n.fr a h g with q | ⟨ys, q⟩
    · refine n1.fr a ?_ q
      have hne : a ≠ Dl := fun z => by
        subst z
        exact h (n.h.back hD)
      rw [upd_ne hne]
      cases hh : H a with
      | none => exact absurd hh h
      | some o => rw [n.h a o hh]; exact fun z => nomatch z
    · exact .inr ⟨ys, n1.g a _ q⟩
  have gd := hgd G1 H1 n1.g x1 fun _ => old
  by_cases hlt : i < ds0.length
  · refine .inr ⟨goes i H1 hlt gd, ?_⟩
    have hd : ds0[i]? = some ds0[i] := List.getElem?_eq_getElem hlt
    rw [List.drop_eq_getElem_cons hlt] at hf
    unfold lcF at hf
    cases htg : T ds0[i] (wipeE ρ vs) with
    | none => rw [htg] at hf; cases hf
    | some ρ2 =>
      rw [htg] at hf
      have hf : (C ρ2 >>= fun b => if b = true then F ρ2 >>= fun y => (if acc.length < lim then lcF T C F (wipeE ρ vs) (ds0.drop (i + 1)) (acc ++ [y]) else .stuck) else lcF T C F (wipeE ρ vs) (ds0.drop (i + 1)) acc) = .ok res := hf
      refine ⟨fun H2 => ∃ G1 acc xs, Nx G' (upd H' Dl (.lst [])) G1 (upd H2 Dl (.lst [])) ∧ Ex G1 H2 ∧ H2 Dl = some (.lst xs) ∧ DpAll c.K G1 xs acc ∧ lcF T C F (wipeE ρ vs) (ds0.drop (i + 1)) acc = .ok res,
        fun H2 ⟨G2, acc2, xs2, a1, a2, a3, a4, a5⟩ => ⟨ds0.length - (i + 1), by omega, rfl, hlt, G2, acc2, xs2, a1, a2, a3, a4, a5⟩, fun x H2 hy => ?_⟩
      obtain ⟨G2, n2, q2⟩ := ylds i G1 H1 x H2 _ hd gd n1.g x1 hy
      have r2 : Rep c G2 H2 (wipeE ρ vs) (wipe σ vs) := wipe_rep (rep.nx (nx1.trans n2)) vs
      refine hg G2 H2 _ _ x _ ρ2 r2 q2 htg _ fun σ2 r3 o w3 => ⟨?_, ?_⟩
      · rw [w3 vs hL, wipe_idem]
      -- behind a step that leaves what stands
      have step : ∀ G3 H3, Nx G1 H1 G3 H3 → ∀ H4, (∀ a, a ≠ Dl → H4 a = H3 a) → H4 Dl = H4 Dl → Ex G3 H4 → Nx G' (upd H' Dl (.lst [])) G3 (upd H4 Dl (.lst [])) := fun G3 H3 m H4 e4 _ x4 => by
        have g3D : G3 Dl = none := by
          rcases m.fr Dl (by rw [hx]; exact fun z => nomatch z) g1D with q | ⟨ys, q⟩
          · exact q
          · have h1 := m.gh Dl _ q
            rw [m.h Dl _ hx] at h1
            cases h1
        refine ⟨n1.g.trans m.g, fun a u h => ?_, fun a u h => ?_, fun a h g => ?_⟩
        · by_cases ha : a = Dl
          · subst ha
            rw [upd_same] at h ⊢
            exact h
          · rw [upd_ne ha] at h ⊢
            rw [e4 a ha]
            exact m.h a u (old a u h)
        · have ha : a ≠ Dl := ne_of_none h g3D
          rw [upd_ne ha]
          exact x4 a u h
        · rcases n1.fr a h g with q | ⟨ys, q⟩
          · by_cases ha : a = Dl
            · rw [ha]; exact .inl g3D
            · refine m.fr a ?_ q
              rw [upd_ne ha] at h
              cases hh : H' a with
              | none => exact absurd hh h
              | some o => rw [old a o hh]; exact fun z => nomatch z
          · exact .inr ⟨ys, m.g a _ q⟩
      have c0 : C ρ2 ≠ .stuck := fun z => by rw [z] at hf; cases hf
      refine ht G2 H2 ρ2 σ2 r3 c0 _ (fun b hb G3 H3 b' n3 eb => ?_) fun y e => by rw [e] at hf; cases hf
      cases eb
      rw [hb, ok_bind] at hf
      have m3 := n2.trans n3
      cases b with
      | false =>
        show ∃ G1 acc xs, _
        exact ⟨G3, acc, xs, step G3 H3 m3 H3 (fun _ _ => rfl) rfl n3.gh, n3.gh, m3.h Dl _ hx, DpAll.ex m3.g ax, hf⟩
      | true =>
        rw [if_pos rfl] at hf
        have f0 : F ρ2 ≠ .stuck := fun z => by rw [z] at hf; cases hf
        refine he G3 H3 ρ2 σ2 (r3.nx n3) f0 _ (fun y hy2 G4 H4 v n4 q4 => ?_) fun y e => by rw [e] at hf; cases hf
        rw [hy2, ok_bind] at hf
        have m4 := m3.trans n4
        have hx4 := m4.h Dl _ hx
        by_cases hlen : acc.length < lim
        · rw [if_pos hlen] at hf
          have g4D : G4 Dl = none := by
            rcases m4.fr Dl (by rw [hx]; exact fun z => nomatch z) g1D with q | ⟨ys, q⟩
            · exact q
            · have h1 := m4.gh Dl _ q
              rw [hx4] at h1
              cases h1
          have x4 : Ex G4 (upd H4 Dl (.lst (xs ++ [v]))) := fun a u h => by
            rw [upd_ne (ne_of_none h g4D)]
            exact n4.gh a u h
          refine ⟨xs, hx4, lim_lt (by rw [DpAll.length ax]; exact hlen), G4, acc ++ [y], xs ++ [v], ?_, x4, upd_same, DpAll.append (DpAll.ex m4.g ax) (.cons q4 .nil), hf⟩
          exact step G4 H4 m4 _ (fun a ha => upd_ne ha) rfl x4
        · rw [if_neg hlen] at hf
          cases hf
  · have hi2 : i = ds0.length := by omega
    subst hi2
    rw [List.drop_length] at hf
    cases hf
    refine .inl ⟨stops H1 gd, ok _ e0 G1 H1 _ nx1 ⟨Dl, xs, rfl, n.h.back hD, g1D, hx, ax⟩⟩
/-- errors don't leave a comprehension here -/
def fLcS (S : Env → Rs (List PyData)) (T : Tgt) (C : Env → Rs Bool) (F : Env → Rs PyData) (vs : List Nat) : Env → Rs Sl := fun ρ => match fLc S T C F vs ρ with
  | .ok r => .ok r
  | _ => .stuck
section
variable {ca : Nat → Addr} {X : Cx} {E : XK}
theorem sem_lc {c : Pc} {wi : TI} {g : TG} {tt : TT} {te : TE} {S : Env → Rs (List PyData)} {T : Tgt} {L vs : List Nat} {C : Env → Rs Bool} {F : Env → Rs PyData} (hi : SemI c E true wi S) (hg : SemTG c g T L) (ht : SemG c E0 tt C RT) (he : SemG c E0 te F (RS c))
    (hL : ∀ i ∈ L, i ∈ vs) : SemG c E (tLc wi g tt te vs) (fLcS S T C F vs) (RV c) := by
  intro G H ρ σ rep hns Q ok er
  unfold fLcS at hns ok
  cases hr : fLc S T C F vs ρ with
  | stuck => rw [hr] at hns; exact absurd rfl hns
  | err x => rw [hr] at hns; exact absurd rfl hns
  | ok r =>
    refine lc_sem hi hg ht he hL G H ρ σ rep ⟨r, hr⟩ Q fun a e => ok a (by rw [hr] at e ⊢; exact e)
theorem jv_lc {elt tg iter : Expr} {ifs : List Expr} {scope : Scope} {own : List (Str × Nat)} {pos : Pos} {wi : TI} {g : TG} {tt : TT} {te : TE} {S : Env → Rs (List PyData)} {T : Tgt} {L : List Nat} {C : Env → Rs Bool} {F : Env → Rs PyData} (hc : X.calm = true) (hN : X.N.Nodup) (hi : JI ca X E true tg iter wi S) (ok : BlkOk X.N X.env.scope scope own)
    (hg : ∀ (s : Shared) (H : Hp) (C : Addr) (cl : List (Str × Addr)) (fp : List Addr), JG ca (X.blk s H scope (compEnvC scope cl C X.env) fp) tg g T L) (ht : ∀ (s : Shared) (H : Hp) (D : Addr) (cl : List (Str × Addr)) (fp : List Addr), JC ca (X.blk s H scope (compEnvC scope cl D X.env) fp) E0 ifs tt C)
    (he : ∀ (s : Shared) (H : Hp) (C : Addr) (cl : List (Str × Addr)) (fp : List Addr), JS ca (X.blk s H scope (compEnvC scope cl C X.env) fp) E0 elt te F) (hL : ∀ i ∈ L, i ∈ own.map (·.2)) (s0 : Shared) (H0 : Hp) (hs : ∀ x, foldedSetIterable iter X.env x = pure x := by intro _; rfl) :
    JV ca X E (.ListComp elt [⟨tg, iter, ifs, 0⟩] scope pos) (tLc wi g tt te (own.map (·.2))) (fLcS S T C F (own.map (·.2))) :=
  ⟨pe_lc hc hN hi.pi ok (fun s H C cl fp => (hg s H C cl fp).pg) (fun s H C cl fp => (ht s H C cl fp).pts) (fun s H C cl fp => (he s H C cl fp).pe) hs,
    sem_lc hi.sem (hg s0 H0 0 [] []).sem (ht s0 H0 0 [] []).sem (he s0 H0 0 [] []).sem hL⟩
theorem jp_setLc {i : Nat} {y : Str} {py : Pos} {elt tg iter : Expr} {ifs : List Expr} {scope : Scope} {own : List (Str × Nat)} {pos spos : Pos} {wi : TI} {g : TG} {tt : TT} {te : TE} {S : Env → Rs (List PyData)} {T : Tgt} {L : List Nat} {C : Env → Rs Bool} {F : Env → Rs PyData} (hc : X.calm = true) (hN : X.N.Nodup) (hy : X.N[i]? = some y) (hyl : X.env.scope.names.lookup y = some .local)
    (hsw : swapsWith (.ListComp elt [⟨tg, iter, ifs, 0⟩] scope pos) (some (.Name y py)) spos.line X.env = pure true) (hi : JI ca X E true tg iter wi S) (ok : BlkOk X.N X.env.scope scope own)
    (hg : ∀ (s : Shared) (H : Hp) (C : Addr) (cl : List (Str × Addr)) (fp : List Addr), JG ca (X.blk s H scope (compEnvC scope cl C X.env) fp) tg g T L) (ht : ∀ (s : Shared) (H : Hp) (D : Addr) (cl : List (Str × Addr)) (fp : List Addr), JC ca (X.blk s H scope (compEnvC scope cl D X.env) fp) E0 ifs tt C)
    (he : ∀ (s : Shared) (H : Hp) (C : Addr) (cl : List (Str × Addr)) (fp : List Addr), JS ca (X.blk s H scope (compEnvC scope cl C X.env) fp) E0 elt te F) (hL : ∀ i ∈ L, i ∈ own.map (·.2)) (s0 : Shared) (H0 : Hp) (hs : ∀ x, foldedSetIterable iter X.env x = pure x := by intro _; rfl) :
    JP ca X E (.Assign [.Name y py] (.ListComp elt [⟨tg, iter, ifs, 0⟩] scope pos) spos) (tAsg (tLc wi g tt te (own.map (·.2))) (gName i)) (fSet i (fLcS S T C F (own.map (·.2)))) :=
  ⟨ps_setLc hc hN hy hyl hsw hi.pi ok (fun s H C cl fp => (hg s H C cl fp).pg) (fun s H C cl fp => (ht s H C cl fp).pts) (fun s H C cl fp => (he s H C cl fp).pe) hs,
    sem_set i (sem_lc hi.sem (hg s0 H0 0 [] []).sem (ht s0 H0 0 [] []).sem (he s0 H0 0 [] []).sem hL)⟩
end
end PF

namespace PF
open PySem L2

/-! ### calls -/
structure Callee (P : Program) (w : World) (K : PySem.W.Frag) (mg : Str → Option Value) (base : Heap) (ca : Nat → Addr) (x : Str) (k : Nat) (fF : List PyData → Rs Sl) (np : Nat) : Prop where
  ex : ∃ (f : Addr) (fd : FuncData) (ps : List Str), FnOk P w K mg base (L2.CX P w) k f fd ps (spF ⟨K, ca⟩ fF np) ∧ mg x = some (.ref f) ∧ PySem.W.keepIn K (.ref f) = true ∧ Binds K fd ps []
  len : ∀ ds, fF ds ≠ .stuck → ds.length = np
section
variable {ca : Nat → Addr} {X : Cx} {E : XK}
theorem jv_call {x : Str} {k np : Nat} {fF : List PyData → Rs Sl} {e : Expr} {es : List Expr} {t : TA} {Fa : Env → Rs (List PyData)} {p pos : Pos} (C : Callee X.prog X.w X.K X.mg X.base ca x k fF np) (hr : Room k X.A) (hx : Passes (L2.CX X.prog X.w) X E) (ha : JA ca X E (e :: es) t Fa)
    (hg : Gl X x := by rfl) (hdb : (x == ("__debug__" : Str)) = false := by decide) (he : starEach (e :: es) X.env = (false, eval e X.env) :: starEach es X.env := by rfl) (hpl : (backTo pos (starEach es X.env)).any (·.1) = false := by rfl) :
    JV ca X E (.Call (.Name x p) (e :: es) [] pos) (tCall (spF ⟨X.K, ca⟩ fF np) [] E t) (fCall fF Fa) := by
  obtain ⟨f, fd, ps, F, hm, hk, hb⟩ := C.ex
  exact ⟨pe_call F hr hg hm hk hb .nil hx ha.pa hdb he hpl, sem_callF ha.sem C.len⟩
variable {a b : Expr} {ta tb : TE} {Fa Fb : Env → Rs PyData} {p pos p2 : Pos}
theorem js_len (ha : JB ca X E a ta Fa) (hm : X.mg "len" = none) (hg : Gl X "len" := by rfl) (hst : starEach [a] X.env = (false, eval a X.env) :: starEach [] X.env := by rfl) : JS ca X E (.Call (.Name "len" p) [a] [] pos) (tCB (fun xs H Q => ∃ p ys, xs = [.ref p] ∧ (SqL X.K H p ys ∨ SqT X.K H p ys) ∧ Q (.int ys.length) H) (tCons ta tNil)) (fUn lenD Fa) :=
  ⟨pe_callB call_len_seq hg hm PySem.boot_len (pa_cons ha.pe pa_nil hst) (he := hst), sem_call1 callsem_len RS.mono ha.sem⟩
theorem js_abs (ha : JB ca X E a ta Fa) (hm : X.mg "abs" = none) (hg : Gl X "abs" := by rfl) (hst : starEach [a] X.env = (false, eval a X.env) :: starEach [] X.env := by rfl) : JS ca X E (.Call (.Name "abs" p) [a] [] pos) (tCB (fun xs H Q => ∃ i, xs = [.int i] ∧ Q (.int (if i < 0 then -i else i)) H) (tCons ta tNil)) (fUn absD Fa) :=
  ⟨pe_callB call_abs hg hm (by decide +kernel) (pa_cons ha.pe pa_nil hst) (he := hst), sem_call1 callsem_abs RS.mono ha.sem⟩
theorem js_intc (ha : JB ca X E a ta Fa) (hm : X.mg "int" = none) (hg : Gl X "int" := by rfl) (hst : starEach [a] X.env = (false, eval a X.env) :: starEach [] X.env := by rfl) : JS ca X E (.Call (.Name "int" p) [a] [] pos) (tCB (fun xs H Q => (∃ i, xs = [.int i] ∧ Q (.int i) H) ∨ ∃ k, xs = [.bl k] ∧ Q (.int (if k then 1 else 0)) H) (tCons ta tNil)) (fUn int1D Fa) :=
  ⟨pe_callTy call_int1 hg hm (by decide +kernel) (pa_cons ha.pe pa_nil hst) (he := hst), sem_call1 callsem_int RS.mono ha.sem⟩
theorem jv_list (ha : JB ca X E a ta Fa) (hm : X.mg "list" = none) (hg : Gl X "list" := by rfl) (hst : starEach [a] X.env = (false, eval a X.env) :: starEach [] X.env := by rfl) : JV ca X E (.Call (.Name "list" p) [a] [] pos) (tCB (fun xs H Q => ∃ p ys, xs = [.ref p] ∧ (SqL X.K H p ys ∨ SqT X.K H p ys) ∧ ∀ l, H l = none → Q (.ref l) (upd H l (.lst ys))) (tCons ta tNil)) (fUn listD Fa) :=
  ⟨pe_callTy call_list_of hg hm (by decide +kernel) (pa_cons ha.pe pa_nil hst) (he := hst), sem_call1 callsem_list RV.mono' ha.sem⟩
theorem js_tuplec (ha : JB ca X E a ta Fa) (hm : X.mg "tuple" = none) (hg : Gl X "tuple" := by rfl) (hst : starEach [a] X.env = (false, eval a X.env) :: starEach [] X.env := by rfl) : JS ca X E (.Call (.Name "tuple" p) [a] [] pos) (tCB (fun xs H Q => ∃ p ys, xs = [.ref p] ∧ ((SqL X.K H p ys ∧ ∀ l, H l = none → Q (.ref l) (upd H l (.tup ys))) ∨ (SqT X.K H p ys ∧ Q (.ref p) H))) (tCons ta tNil)) (fUn tupleD Fa) :=
  ⟨pe_callTy call_tuple_of hg hm (by decide +kernel) (pa_cons ha.pe pa_nil hst) (he := hst), sem_call1 callsem_tuple RS.mono ha.sem⟩
theorem js_sum (ha : JB ca X E a ta Fa) (hm : X.mg "sum" = none) (hc : X.calm = true) (hg : Gl X "sum" := by rfl) (hst : starEach [a] X.env = (false, eval a X.env) :: starEach [] X.env := by rfl) : JS ca X E (.Call (.Name "sum" p) [a] [] pos) (tCB (rSum X.K) (tCons ta tNil)) (fUn sumD Fa) :=
  ⟨pe_callB (cr_sum hc) hg hm (by decide +kernel) (pa_cons ha.pe pa_nil hst) (he := hst), sem_call1 callsem_sum RS.mono ha.sem⟩
theorem js_min (ha : JB ca X E a ta Fa) (hb : JB ca X E b tb Fb) (hm : X.mg "min" = none) (hc : X.calm = true) (hg : Gl X "min" := by rfl) (hst : starEach [a, b] X.env = (false, eval a X.env) :: starEach [b] X.env := by rfl) (hst2 : starEach [b] X.env = (false, eval b X.env) :: starEach [] X.env := by rfl) (hpl : (backTo pos (starEach [b] X.env)).any (·.1) = false := by rfl) :
    JS ca X E (.Call (.Name "min" p) [a, b] [] pos) (tCB (fun xs H Q => ∃ i j, xs = [.int i, .int j] ∧ Q (.int (if j < i then j else i)) H) (tCons ta (tCons tb tNil))) (fOp min2D Fa Fb) :=
  ⟨pe_callB (call_min2 hc) hg hm (by decide +kernel) (pa_cons ha.pe (pa_cons hb.pe pa_nil hst2) hst) (he := hst) (hpl := hpl), sem_call2 callsem_min RS.mono ha.sem hb.sem⟩
theorem js_max (ha : JB ca X E a ta Fa) (hb : JB ca X E b tb Fb) (hm : X.mg "max" = none) (hc : X.calm = true) (hg : Gl X "max" := by rfl) (hst : starEach [a, b] X.env = (false, eval a X.env) :: starEach [b] X.env := by rfl) (hst2 : starEach [b] X.env = (false, eval b X.env) :: starEach [] X.env := by rfl) (hpl : (backTo pos (starEach [b] X.env)).any (·.1) = false := by rfl) :
    JS ca X E (.Call (.Name "max" p) [a, b] [] pos) (tCB (fun xs H Q => ∃ i j, xs = [.int i, .int j] ∧ Q (.int (if j > i then j else i)) H) (tCons ta (tCons tb tNil))) (fOp max2D Fa Fb) :=
  ⟨pe_callB (call_max2 hc) hg hm (by decide +kernel) (pa_cons ha.pe (pa_cons hb.pe pa_nil hst2) hst) (he := hst) (hpl := hpl), sem_call2 callsem_max RS.mono ha.sem hb.sem⟩
/-- isinstance(x, T), T a built-in class -/
theorem isiD_ok {T : String} {d s : PyData} (h : isiD T d = .ok s) : ∃ b, kitB (tyN d) T = some b ∧ s = .bool b := by
  unfold isiD at h
  split at h
  · rename_i b hb
    cases h
    exact ⟨b, hb, rfl⟩
  · cases h
theorem js_isi (T : String) {x : Str} (ha : JB ca X E a ta Fa) (hm : X.mg "isinstance" = none) (hT : X.mg x = none) (hv : bootBuiltins x = some (.type T)) (hgT : Gl X x := by rfl) (hg : Gl X "isinstance" := by rfl) (hn : x ≠ "__name__" := by decide) (hd : (x == ("__debug__" : Str)) = false := by decide)
    (hst : starEach [a, .Name x p2] X.env = (false, eval a X.env) :: starEach [.Name x p2] X.env := by rfl) (hst2 : starEach [.Name x p2] X.env = (false, eval (.Name x p2) X.env) :: starEach [] X.env := by rfl) :
    JS ca X E (.Call (.Name "isinstance" p) [a, .Name x p2] [] pos) (tCB (rIsi X.K) (tCons ta (tCons (tC (.ty T)) tNil))) (fUn (isiD T) Fa) :=
  ⟨pe_callB call_isi hg hm (by decide +kernel) (pa_cons ha.pe (pa_cons (pe_bltn (v := .ty T) hgT hT hv rfl hn hd) pa_nil hst2) hst) (he := hst), fun G H ρ σ rep hns Q ok er => ha.sem.use rep hns er fun d ed e1 G' H' v n r q hk _ => by
    cases hi : isiD T d with
    | stuck => exact absurd hi hk
    | err z => unfold isiD at hi; split at hi <;> cases hi
    | ok s =>
      obtain ⟨b, hb, rfl⟩ := isiD_ok hi
      exact ⟨v, .ty T, _, .type T, b, rfl, .ty T, db_ty n.gh q, kit_ty hb, ok _ (e1.trans hi) G' H' _ n (.bl b)⟩⟩
end
/-! ### freezing, told -/
def fFz (i : Nat) (F : Env → Rs Out) : Env → Rs Out := fun ρ => F (fz1 i ρ)
theorem jp_fzF {ca : Nat → Addr} {X : Cx} {E : XK} {st : Stmt} {t : TS} {F : Env → Rs Out} (i : Nat) (h : JP ca X E st t F) : JP ca X E st t (fFz i F) := jp_fz i h
/-! ### the end -/
theorem callee_of {P : Program} {w : World} {K : PySem.W.Frag} {mg : Str → Option Value} {base : Heap} {ca : Nat → Addr} {x qual y : Str} {st : Stmt} {f : Addr} {fd : FuncData} {ps : List Str} {k np n : Nat} {F : Env → Rs Out} (Fu : Fun K y qual st f fd) (h : FnOk P w K mg base (L2.CX P w) k f fd ps (spF ⟨K, ca⟩ (fnOf np n F) np))
    (hm : mg x = some (.ref f)) (hb : Binds K fd ps []) : Callee P w K mg base ca x k (fnOf np n F) np := ⟨⟨f, fd, ps, h, hm, Fu.kp, hb⟩, fun ds => fnOf_len ds⟩
/-- what the law promises -/
def spTrue (K : PySem.W.Frag) : Sp := fun vs H Q _ => ∃ (a : Addr) (ns : List Int), vs = [.ref a] ∧ SqL K H a (ns.map V.int) ∧ ns.length ≤ 63 ∧ ∀ H', Q (.bl true) H'
theorem dpall_of_ints {K : PySem.W.Frag} {G : Hp} : ∀ ns : List Int, DpAll K G (ns.map V.int) (ns.map PyData.int)
  | [] => .nil
  | i :: ns => .cons (.int i) (dpall_of_ints ns)
theorem law_of {P : Program} {w : World} {K : PySem.W.Frag} {mg : Str → Option Value} {base : Heap} {ca : Nat → Addr} {k : Nat} {f : Addr} {fd : FuncData} {ps : List Str} {fF : List PyData → Rs Sl} (h : FnOk P w K mg base (L2.CX P w) k f fd ps (spF ⟨K, ca⟩ fF 1))
    (ht : ∀ ns : List Int, ns.length ≤ 63 → fF [.list (ns.map .int)] = .ok (.sh (.bool true))) : FnOk P w K mg base (L2.CX P w) k f fd ps (spTrue K) :=
  h.imp fun vs H Q E hq => by
    obtain ⟨a, ns, e, hs, hl, q⟩ := hq
    have e0 := ht ns hl
    show ∃ G ds, _
    refine ⟨H, [.list (ns.map .int)], Ex.refl H, by rw [e]; exact .cons (.lst hs (dpall_of_ints ns)) .nil, rfl, fun z => (by rw [e0] at z; cases z), fun s es G' H' v n r => ?_, fun x ex => (by rw [e0] at ex; cases ex)⟩
    rw [e0] at es
    cases es
    have r : Dp K G' v (.bool true) := r
    rw [Dp.bl_v r]
    exact q H'
end PF

namespace PF
open PySem L2

/-! ### the rules of reckoning -/
section
variable {α β : Type} {ρ : Env} {F G : Env → Rs PyData} {Fv : Env → Rs Sl} {Fs : Env → Rs (List PyData)} {Fb Gb : Env → Rs Bool} {A B : Env → Rs Out}
@[simp] theorem z_ok (a : α) (f : α → Rs β) : (Rs.ok a >>= f) = f a := rfl
@[simp] theorem z_err (x : Exn) (f : α → Rs β) : ((Rs.err x : Rs α) >>= f) = .err x := rfl
@[simp] theorem z_stuck (f : α → Rs β) : ((Rs.stuck : Rs α) >>= f) = .stuck := rfl
@[simp] theorem z_varB (i : Nat) : fVarB i ρ = slB ρ[i]? := rfl
@[simp] theorem z_varS (i : Nat) : fVarS i ρ = slS ρ[i]? := rfl
@[simp] theorem z_slB (d : PyData) : slB (some (.sh d)) = .ok d := rfl
@[simp] theorem z_slBo (d : List PyData) : slB (some (.ol d)) = .ok (.list d) := rfl
@[simp] theorem z_slS (d : PyData) : slS (some (.sh d)) = .ok d := rfl
@[simp] theorem z_c (d : PyData) : fC d ρ = .ok d := rfl
@[simp] theorem z_op (f : PyData → PyData → Rs α) : fOp f F G ρ = (F ρ >>= fun a => G ρ >>= fun b => f a b) := rfl
@[simp] theorem z_un (f : α → Rs β) (F : Env → Rs α) : fUn f F ρ = (F ρ >>= f) := rfl
@[simp] theorem z_sh : fSh Fv ρ = (Fv ρ >>= slShare) := rfl
@[simp] theorem z_v : fV F ρ = (F ρ >>= fun d => .ok (.sh d)) := rfl
@[simp] theorem z_slsh (d : PyData) : slShare (.sh d) = .ok d := rfl
@[simp] theorem z_slol (d : List PyData) : slShare (.ol d) = .ok (.list d) := rfl
@[simp] theorem z_nil : fNil ρ = .ok [] := rfl
@[simp] theorem z_cons : fCons F Fs ρ = (F ρ >>= fun d => Fs ρ >>= fun ds => .ok (d :: ds)) := rfl
@[simp] theorem z_call (f : List PyData → Rs Sl) : fCall f Fs ρ = (Fs ρ >>= f) := rfl
@[simp] theorem z_not : fNot Fb ρ = (Fb ρ >>= fun b => .ok (!b)) := rfl
@[simp] theorem z_and : fAnd Fb Gb ρ = (Fb ρ >>= fun b => if b = true then Gb ρ else .ok false) := rfl
@[simp] theorem z_or : fOr Fb Gb ρ = (Fb ρ >>= fun b => if b = true then .ok true else Gb ρ) := rfl
@[simp] theorem z_andV : fAndV F G ρ = (F ρ >>= fun a => boolOf a >>= fun b => if b = true then G ρ else .ok (.bool false)) := rfl
@[simp] theorem z_orV : fOrV F G ρ = (F ρ >>= fun a => boolOf a >>= fun b => if b = true then .ok (.bool true) else G ρ) := rfl
@[simp] theorem z_notV : fNotV F ρ = (F ρ >>= fun a => boolOf a >>= fun b => .ok (.bool (!b))) := rfl
@[simp] theorem z_b : fB F ρ = (F ρ >>= boolOf) := rfl
@[simp] theorem z_boolOf (b : Bool) : boolOf (.bool b) = .ok b := rfl
@[simp] theorem z_intOf (b : Int) : intOf (.int b) = .ok b := rfl
@[simp] theorem z_some : fSome F ρ = (F ρ >>= fun d => intOf d >>= fun i => .ok (some i)) := rfl
@[simp] theorem z_none : fNone ρ = .ok none := rfl
@[simp] theorem z_sl {Fl Fh : Env → Rs (Option Int)} : fSl F Fl Fh ρ = (F ρ >>= fun a => Fl ρ >>= fun l => Fh ρ >>= fun h => slD a l h) := rfl
@[simp] theorem z_slL (ds : List PyData) (lo hi : Option Int) : slD (.list ds) lo hi = .ok (.ol (cutP ds lo hi)) := rfl
@[simp] theorem z_slT (ds : List PyData) (lo hi : Option Int) : slD (.tuple ds) lo hi = .ok (.sh (.tuple (cutP ds lo hi))) := rfl
@[simp] theorem z_seq : fSeq A B ρ = after (A ρ) B := rfl
@[simp] theorem z_skip : fSkip ρ = .ok (.nx ρ) := rfl
@[simp] theorem z_anx (k : Env → Rs Out) : after (.ok (.nx ρ)) k = k ρ := rfl
@[simp] theorem z_art (s : Sl) (k : Env → Rs Out) : after (.ok (.rt s)) k = .ok (.rt s) := rfl
@[simp] theorem z_aerr (x : Exn) (k : Env → Rs Out) : after (.err x) k = .err x := rfl
@[simp] theorem z_set (i : Nat) : fSet i Fv ρ = (Fv ρ >>= fun s => .ok (.nx (ρ.set i s))) := rfl
@[simp] theorem z_ret : fRet Fv ρ = (Fv ρ >>= fun s => .ok (.rt s)) := rfl
@[simp] theorem z_retVar (i : Nat) : fRetVar i ρ = (slRet ρ[i]? >>= fun s => .ok (.rt s)) := rfl
@[simp] theorem z_slRet (d : PyData) : slRet (some (.sh d)) = .ok (.sh d) := rfl
@[simp] theorem z_slReto (d : List PyData) : slRet (some (.ol d)) = .ok (.ol d) := rfl
@[simp] theorem z_slRetd (d : List (List Int × PyData)) : slRet (some (.od d)) = .ok (.od d) := rfl
@[simp] theorem z_if : fIf Fb A B ρ = (Fb ρ >>= fun b => if b = true then A ρ else B ρ) := rfl
@[simp] theorem z_fz (i : Nat) : fFz i A ρ = A (fz1 i ρ) := rfl
theorem fz1_eq (i : Nat) (ρ : Env) : fz1 i ρ = match ρ[i]? with
  | some (.ol ds) => ρ.set i (.sh (.list ds))
  | _ => ρ := by
  unfold fz1
  cases ρ[i]? with
  | none => rfl
  | some s => cases s <;> rfl
theorem fz1_sh {i : Nat} {ρ : Env} {d : PyData} (h : ρ[i]? = some (.sh d)) : fz1 i ρ = ρ := by rw [fz1_eq, h]
theorem fz1_ol {i : Nat} {ρ : Env} {ds : List PyData} (h : ρ[i]? = some (.ol ds)) : fz1 i ρ = ρ.set i (.sh (.list ds)) := by rw [fz1_eq, h]
@[simp] theorem z_for {T : Tgt} : fFor Fs T A ρ = (Fs ρ >>= fun ds => forF T A ds ρ) := rfl
@[simp] theorem z_it (f : α → Rs (List PyData)) (F : Env → Rs α) : fIt f F ρ = (F ρ >>= f) := rfl
@[simp] theorem z_itemsL (ds : List PyData) : itemsL (.list ds) = .ok ds := rfl
@[simp] theorem z_itemsT (ds : List PyData) : itemsT (.tuple ds) = .ok ds := rfl
@[simp] theorem z_par (i j : Nat) : fPar i j Fs ρ = (Fs ρ >>= fun ds => match ds with
  | [a, b] => .ok (.nx ((ρ.set i (.sh a)).set j (.sh b)))
  | _ => .stuck) := rfl
@[simp] theorem z_asg {T : Tgt} : fAsg T F ρ = (F ρ >>= fun d => match T d ρ with
  | some ρ' => .ok (.nx ρ')
  | none => .stuck) := rfl
@[simp] theorem z_tgN (i : Nat) (d : PyData) : tgN i d ρ = some (ρ.set i (.sh d)) := rfl
@[simp] theorem z_tgNil : tgNil [] ρ = some ρ := rfl
@[simp] theorem z_tgCons (T : Tgt) (Ts : Tgts) (d : PyData) (ds : List PyData) : tgCons T Ts (d :: ds) ρ = (T d ρ).bind (Ts ds) := rfl
@[simp] theorem z_tgT (n : Nat) (Ts : Tgts) (ds : List PyData) : tgT n Ts (.tuple ds) ρ = if ds.length = n then Ts ds ρ else none := rfl
@[simp] theorem z_outN : outV (.ok (.nx ρ)) = .ok (.sh .none) := rfl
@[simp] theorem z_outR (s : Sl) : outV (.ok (.rt s)) = .ok s := rfl
@[simp] theorem z_outE (x : Exn) : outV (.err x) = .err x := rfl
end
/-! the operations -/
@[simp] theorem z_add (a b : Int) : addD (.int a) (.int b) = .ok (.sh (.int (a + b))) := rfl
theorem addD_list {xs ys : List PyData} (h : xs.length + ys.length ≤ lim) : addD (.list xs) (.list ys) = .ok (.ol (xs ++ ys)) := if_pos h
theorem addD_tuple {xs ys : List PyData} (h : xs.length + ys.length ≤ lim) : addD (.tuple xs) (.tuple ys) = .ok (.sh (.tuple (xs ++ ys))) := if_pos h
@[simp] theorem z_sub (a b : Int) : subD (.int a) (.int b) = .ok (.int (a - b)) := rfl
theorem mulD_ok {a b : Int} (h : mulOk a b) : mulD (.int a) (.int b) = .ok (.int (a * b)) := if_pos h
theorem divD_ok {a b : Int} (h : divOk a b) : divD (.int a) (.int b) = .ok (.int (a.fdiv b)) := if_pos h
theorem modD_ok {a b : Int} (h : b ≠ 0) : modD (.int a) (.int b) = .ok (.int (a.fmod b)) := if_pos h
theorem powD_ok {a b : Int} (h : powOk a b) : powD (.int a) (.int b) = .ok (.int (a ^ b.toNat)) := if_pos h
@[simp] theorem z_lt (a b : Int) : ltD (.int a) (.int b) = .ok (.bool (decide (a < b))) := rfl
@[simp] theorem z_le (a b : Int) : leD (.int a) (.int b) = .ok (.bool (decide (a ≤ b))) := rfl
@[simp] theorem z_gt (a b : Int) : gtD (.int a) (.int b) = .ok (.bool (decide (b < a))) := rfl
@[simp] theorem z_ge (a b : Int) : geD (.int a) (.int b) = .ok (.bool (decide (b ≤ a))) := rfl
@[simp] theorem z_neg (a : Int) : negD (.int a) = .ok (.int (-a)) := rfl
@[simp] theorem z_abs (a : Int) : absD (.int a) = .ok (.int (if a < 0 then -a else a)) := rfl
@[simp] theorem z_lenL (ds : List PyData) : lenD (.list ds) = .ok (.int ds.length) := rfl
@[simp] theorem z_lenT (ds : List PyData) : lenD (.tuple ds) = .ok (.int ds.length) := rfl
@[simp] theorem z_int1b (b : Bool) : int1D (.bool b) = .ok (.int (if b then 1 else 0)) := rfl
@[simp] theorem z_int1 (b : Int) : int1D (.int b) = .ok (.int b) := rfl
@[simp] theorem z_listL (ds : List PyData) : listD (.list ds) = .ok (.ol ds) := rfl
@[simp] theorem z_listT (ds : List PyData) : listD (.tuple ds) = .ok (.ol ds) := rfl
@[simp] theorem z_tupL (ds : List PyData) : tupleD (.list ds) = .ok (.tuple ds) := rfl
@[simp] theorem z_tupT (ds : List PyData) : tupleD (.tuple ds) = .ok (.tuple ds) := rfl
@[simp] theorem z_min (a b : Int) : min2D (.int a) (.int b) = .ok (.int (if b < a then b else a)) := rfl
@[simp] theorem z_max (a b : Int) : max2D (.int a) (.int b) = .ok (.int (if b > a then b else a)) := rfl
@[simp] theorem z_isN (a : PyData) : isND a .none = .ok (.bool (isNo a)) := rfl
@[simp] theorem z_notN (a : PyData) : notND a .none = .ok (.bool (!isNo a)) := rfl
theorem lstD_ok {ds : List PyData} (h : ds.length ≤ lim) : lstD ds = .ok (.ol ds) := if_pos h
theorem tupD_ok {ds : List PyData} (h : ds.length ≤ lim) : tupD ds = .ok (.tuple ds) := if_pos h
@[simp] theorem z_tup1 (a : PyData) : tupD [a] = .ok (.tuple [a]) := tupD_ok (by show 1 ≤ 1000000; decide)
@[simp] theorem z_tup2 (a b : PyData) : tupD [a, b] = .ok (.tuple [a, b]) := tupD_ok (by show 2 ≤ 1000000; decide)
@[simp] theorem z_tup3 (a b c : PyData) : tupD [a, b, c] = .ok (.tuple [a, b, c]) := tupD_ok (by show 3 ≤ 1000000; decide)
@[simp] theorem z_tup0 : tupD [] = .ok (.tuple []) := tupD_ok (by show 0 ≤ 1000000; decide)
@[simp] theorem z_lst0 : lstD [] = .ok (.ol []) := lstD_ok (by show 0 ≤ 1000000; decide)
@[simp] theorem z_lst1 (a : PyData) : lstD [a] = .ok (.ol [a]) := lstD_ok (by show 1 ≤ 1000000; decide)
@[simp] theorem z_lst2 (a b : PyData) : lstD [a, b] = .ok (.ol [a, b]) := lstD_ok (by show 2 ≤ 1000000; decide)
@[simp] theorem z_lst3 (a b c : PyData) : lstD [a, b, c] = .ok (.ol [a, b, c]) := lstD_ok (by show 3 ≤ 1000000; decide)
@[simp] theorem z_lst4 (a b c d : PyData) : lstD [a, b, c, d] = .ok (.ol [a, b, c, d]) := lstD_ok (by show 4 ≤ 1000000; decide)
@[simp] theorem z_eqI (a b : Int) : eqD (.int a) (.int b) = .ok (.bool (a == b)) := rfl
@[simp] theorem z_neI (a b : Int) : neD (.int a) (.int b) = .ok (.bool (!(a == b))) := rfl
@[simp] theorem z_isiI (a : Int) : isiD "int" (.int a) = .ok (.bool true) := kit_int (.int a)
@[simp] theorem z_isiB (a : Int) : isiD "bool" (.int a) = .ok (.bool false) := kit_bool (.int a)
@[simp] theorem z_isiT (ds : List PyData) : isiD "tuple" (.tuple ds) = .ok (.bool true) := kit_tuple (.tuple ds)
@[simp] theorem z_isiL (ds : List PyData) : isiD "list" (.list ds) = .ok (.bool true) := kit_list (.list ds)
@[simp] theorem z_ixT (ds : List PyData) (i : Int) : ixD (.tuple ds) (.int i) = getP ds i := rfl
@[simp] theorem z_ixL (ds : List PyData) (i : Int) : ixD (.list ds) (.int i) = getP ds i := rfl
@[simp] theorem z_get0 (a : PyData) (l : List PyData) : getP (a :: l) 0 = .ok a := by
  have h : atI (a :: l) ((0 : Nat) : Int) = some a := atI_nat rfl
  unfold getP
  rw [show (0 : Int) = ((0 : Nat) : Int) from rfl, h]
@[simp] theorem z_get1 (a b : PyData) (l : List PyData) : getP (a :: b :: l) 1 = .ok b := by
  have h : atI (a :: b :: l) ((1 : Nat) : Int) = some b := atI_nat rfl
  unfold getP
  rw [show (1 : Int) = ((1 : Nat) : Int) from rfl, h]
@[simp] theorem z_get2 (a b c : PyData) (l : List PyData) : getP (a :: b :: c :: l) 2 = .ok c := by
  have h : atI (a :: b :: c :: l) ((2 : Nat) : Int) = some c := atI_nat rfl
  unfold getP
  rw [show (2 : Int) = ((2 : Nat) : Int) from rfl, h]
theorem getP_nat {ds : List PyData} {i : Nat} {d : PyData} (h : ds[i]? = some d) : getP ds (i : Int) = .ok d := by
  unfold getP
  rw [atI_nat h]
theorem getP_int {ds : List PyData} {i : Int} {d : PyData} (h0 : 0 ≤ i) (h : ds[i.toNat]? = some d) : getP ds i = .ok d := by
  have e : i = ((i.toNat : Nat) : Int) := by omega
  rw [e]
  exact getP_nat h
@[simp] theorem outV_ret (r : Rs Sl) : outV (r >>= fun s => .ok (.rt s)) = r := by cases r <;> rfl
@[simp] theorem z_p10_5 : powD (.int 10) (.int 5) = .ok (.int 100000) := powD_ok (by decide)
@[simp] theorem z_p10_6 : powD (.int 10) (.int 6) = .ok (.int 1000000) := powD_ok (by decide)
@[simp] theorem z_p10_9 : powD (.int 10) (.int 9) = .ok (.int 1000000000) := powD_ok (by decide)
@[simp] theorem z_p10_10 : powD (.int 10) (.int 10) = .ok (.int 10000000000) := powD_ok (by decide)
@[simp] theorem z_p10_18 : powD (.int 10) (.int 18) = .ok (.int 1000000000000000000) := powD_ok (by decide)
@[simp] theorem z_p10_20 : powD (.int 10) (.int 20) = .ok (.int 100000000000000000000) := powD_ok (by decide)
@[simp] theorem z_p10_30 : powD (.int 10) (.int 30) = .ok (.int 1000000000000000000000000000000) := powD_ok (by decide)
@[simp] theorem z_p10_60 : powD (.int 10) (.int 60) = .ok (.int 1000000000000000000000000000000000000000000000000000000000000) := powD_ok (by decide)
@[simp] theorem z_p10_64 : powD (.int 10) (.int 64) = .ok (.int 10000000000000000000000000000000000000000000000000000000000000000) := powD_ok (by decide)
/-! sizes -/
theorem log2_lt' {a : Int} {n : Nat} (h : a.natAbs < 2 ^ n) (h0 : 0 < n) : a.natAbs.log2 < n := PySem.Flt.log2_lt_of h0 h
theorem mulOk_of {a b : Int} {m n : Nat} (ha : a.natAbs < 2 ^ m) (hb : b.natAbs < 2 ^ n) (h : m + n ≤ 134217000) (h0 : 0 < m) (h1 : 0 < n) : mulOk a b := .inr (.inr (by have := log2_lt' ha h0; have := log2_lt' hb h1; omega))
theorem mulOk_left {a b : Int} (h : a.natAbs < 2 ^ 64) : mulOk a b := .inl (log2_lt' h (by decide))
theorem mulOk_right {a b : Int} (h : b.natAbs < 2 ^ 64) : mulOk a b := .inr (.inl (log2_lt' h (by decide)))
theorem divOk_of {a b : Int} {n : Nat} (h0 : b ≠ 0) (h : b.natAbs < 2 ^ n) (hn : n ≤ 9000) : divOk a b := ⟨h0, PyProof.noPylong_of_log2 (by
  have : b.natAbs.log2 < 9000 := log2_lt' (Nat.lt_of_lt_of_le h (Nat.pow_le_pow_right (by decide) hn)) (by decide)
  exact this)⟩
theorem divOk_lit {a b : Int} (h0 : b ≠ 0) (h : b.natAbs < 2 ^ 64) : divOk a b := divOk_of h0 h (by decide)
theorem fnOf_of {np n : Nat} {F : Env → Rs Out} {ds : List PyData} (h : ds.length = np) : fnOf np n F ds = outV (F (ds.map Sl.sh ++ List.replicate (n - np) Sl.no)) := by
  unfold fnOf
  rw [if_pos h, h]
theorem fnOf1 (n : Nat) (F : Env → Rs Out) (a : PyData) : fnOf 1 n F [a] = outV (F (.sh a :: List.replicate (n - 1) .no)) := if_pos rfl
theorem fnOf2 (n : Nat) (F : Env → Rs Out) (a b : PyData) : fnOf 2 n F [a, b] = outV (F (.sh a :: .sh b :: List.replicate (n - 2) .no)) := if_pos rfl
theorem fnOf3 (n : Nat) (F : Env → Rs Out) (a b c : PyData) : fnOf 3 n F [a, b, c] = outV (F (.sh a :: .sh b :: .sh c :: List.replicate (n - 3) .no)) := if_pos rfl
theorem fnOf4 (n : Nat) (F : Env → Rs Out) (a b c d : PyData) : fnOf 4 n F [a, b, c, d] = outV (F (.sh a :: .sh b :: .sh c :: .sh d :: List.replicate (n - 4) .no)) := if_pos rfl
theorem fnOf5 (n : Nat) (F : Env → Rs Out) (a b c d e : PyData) : fnOf 5 n F [a, b, c, d, e] = outV (F (.sh a :: .sh b :: .sh c :: .sh d :: .sh e :: List.replicate (n - 5) .no)) := if_pos rfl
@[simp] theorem z_rep0 : List.replicate 0 Sl.no = [] := rfl
end PF

namespace PF
open PySem L2

/-! ### the greatest divisor, fractions in lowest terms: plain mathematics -/
/-- what divides both, signed as the bottom is -/
def byOf (t b : Int) : Int := if b < 0 then 0 - (Int.gcd t b : Int) else Int.gcd t b
def frT (t b : Int) : Int := t.fdiv (byOf t b)
def frB (t b : Int) : Int := b.fdiv (byOf t b)
def fracD (p q : Int) : PyData := .tuple [.int p, .int q]
def frD (t b : Int) : PyData := fracD (frT t b) (frB t b)
theorem byOf_ne {t b : Int} (h : b ≠ 0) : byOf t b ≠ 0 := by
  have h1 : Int.gcd t b ≠ 0 := fun z => h (Int.gcd_eq_zero_iff.mp z).2
  unfold byOf
  split <;> omega
theorem byOf_dvd_l (t b : Int) : byOf t b ∣ t := by
  unfold byOf
  split
  · rw [Int.zero_sub, Int.neg_dvd]; exact Int.gcd_dvd_left t b
  · exact Int.gcd_dvd_left t b
theorem byOf_dvd_r (t b : Int) : byOf t b ∣ b := by
  unfold byOf
  split
  · rw [Int.zero_sub, Int.neg_dvd]; exact Int.gcd_dvd_right t b
  · exact Int.gcd_dvd_right t b
theorem fdiv_mul_of_dvd {a b : Int} (h : b ∣ a) : a.fdiv b * b = a := Int.fdiv_mul_cancel h
theorem frT_mul (t b : Int) : frT t b * byOf t b = t := fdiv_mul_of_dvd (byOf_dvd_l t b)
theorem frB_mul (t b : Int) : frB t b * byOf t b = b := fdiv_mul_of_dvd (byOf_dvd_r t b)
theorem byOf_abs (t b : Int) : (byOf t b).natAbs = Int.gcd t b := by
  unfold byOf
  split <;> omega
theorem frB_pos {t b : Int} (h : b ≠ 0) : 0 < frB t b := by
  have e := frB_mul t b
  have n := byOf_ne (t := t) h
  have q : byOf t b < 0 ↔ b < 0 := by
    have h1 : Int.gcd t b ≠ 0 := fun z => h (Int.gcd_eq_zero_iff.mp z).2
    unfold byOf
    split <;> omega
  rcases Int.lt_trichotomy (frB t b) 0 with z | z | z
  · rcases Int.lt_or_gt_of_ne n with w | w
    · have := Int.mul_pos_of_neg_of_neg z w
      have := q.mp w
      omega
    · have := Int.mul_neg_of_neg_of_pos z w
      have hb : b < 0 := by omega
      have := q.mpr hb
      omega
  · rw [z, Int.zero_mul] at e
    exact absurd e.symm h
  · exact z
theorem fr_cross {t b : Int} : frT t b * b = t * frB t b := by
  have h1 := frT_mul t b
  have h2 := frB_mul t b
  grind
theorem fr_gcd {t b : Int} (h : b ≠ 0) : Int.gcd (frT t b) (frB t b) = 1 := by
  have e : Int.gcd (frT t b * byOf t b) (frB t b * byOf t b) = Int.gcd (frT t b) (frB t b) * (byOf t b).natAbs := Int.gcd_mul_right _ _ _
  rw [frT_mul, frB_mul, byOf_abs] at e
  have h1 : 0 < Int.gcd t b := Nat.pos_of_ne_zero fun z => h (Int.gcd_eq_zero_iff.mp z).2
  exact (Nat.eq_of_mul_eq_mul_right h1 (by rw [Nat.one_mul]; exact e)).symm
theorem natAbs_le_mul {x y : Int} (h : y ≠ 0) : x.natAbs ≤ (x * y).natAbs := by
  rw [Int.natAbs_mul]
  exact Nat.le_mul_of_pos_right _ (Int.natAbs_pos.mpr h)
theorem frT_le {t b : Int} (h : b ≠ 0) : (frT t b).natAbs ≤ t.natAbs := by
  have := natAbs_le_mul (x := frT t b) (byOf_ne (t := t) h)
  rwa [frT_mul] at this
theorem frB_le {t b : Int} (h : b ≠ 0) : (frB t b).natAbs ≤ b.natAbs := by
  have := natAbs_le_mul (x := frB t b) (byOf_ne (t := t) h)
  rwa [frB_mul] at this
theorem byOf_le {t b : Int} (h : b ≠ 0) : (byOf t b).natAbs ≤ b.natAbs := by
  rw [byOf_abs]
  exact Nat.le_of_dvd (Int.natAbs_pos.mpr h) (Nat.gcd_dvd_right t.natAbs b.natAbs)
/-- the loop of a greatest divisor: state x, y -/
theorem gcd_step (x y : Int) (hy : 0 < y) : Int.gcd y (x.fmod y) = Int.gcd x y := by
  rw [Int.fmod_eq_emod_of_nonneg x (by omega), Int.gcd_comm x y]
  rw [show x % y = x + (-(x / y)) * y by rw [Int.emod_def, Int.neg_mul, Int.mul_comm]; omega]
  exact Int.gcd_add_mul_right_right _ _ _
/-- what the loop body of divisor is to do -/
theorem gcd_loop {C : Env → Rs Bool} {B : Env → Rs Out} (hC : ∀ x y : Int, C [.sh (.int x), .sh (.int y)] = .ok (decide (0 < y)))
    (hB : ∀ x y : Int, 0 < y → B [.sh (.int x), .sh (.int y)] = .ok (.nx [.sh (.int y), .sh (.int (x.fmod y))])) : ∀ (n : Nat) (x y : Int), 0 ≤ x → 0 ≤ y → y.toNat ≤ n → whL C B [.sh (.int x), .sh (.int y)] = .ok (.nx [.sh (.int (Int.gcd x y)), .sh (.int 0)])
  | 0, x, y, hx, hy, hn => by
    have : y = 0 := by omega
    subst this
    rw [whL_eq, hC]
    simp
    omega
  | n + 1, x, y, hx, hy, hn => by
    rw [whL_eq, hC]
    by_cases h : 0 < y
    · simp only [h, decide_true, z_ok, if_pos, hB x y h, z_anx]
      have hm := Int.fmod_nonneg_of_pos x h
      have hl := Int.fmod_lt_of_pos x h
      rw [gcd_loop hC hB n y (x.fmod y) (by omega) hm (by omega), gcd_step x y h]
    · have : y = 0 := by omega
      subst this
      simp
      omega
theorem abs_if (a : Int) : (if a < 0 then -a else a) = (a.natAbs : Int) := by split <;> omega
theorem gcd_abs (a b : Int) : Int.gcd (a.natAbs : Int) (b.natAbs : Int) = Int.gcd a b := by
  unfold Int.gcd
  simp
/-- a loop by an invariant -/
theorem forF_inv {T : Tgt} {B : Env → Rs Out} {ds : List PyData} (I : Nat → Env → Prop) (step : ∀ i d ρ, ds[i]? = some d → I i ρ → ∃ ρ1 ρ2, T d ρ = some ρ1 ∧ B ρ1 = .ok (.nx ρ2) ∧ I (i + 1) ρ2) :
    ∀ (n : Nat) (ρ : Env), n ≤ ds.length → I n ρ → ∃ ρ', forF T B (ds.drop n) ρ = .ok (.nx ρ') ∧ I ds.length ρ' := by
  intro n
  generalize hk : ds.length - n = k
  induction k generalizing n with
  | zero =>
    intro ρ hn hi
    have e : n = ds.length := by omega
    subst e
    exact ⟨ρ, by rw [List.drop_length]; rfl, hi⟩
  | succ k ih =>
    intro ρ hn hi
    have hlt : n < ds.length := by omega
    obtain ⟨ρ1, ρ2, e1, e2, hi2⟩ := step n ds[n] ρ (List.getElem?_eq_getElem hlt) hi
    obtain ⟨ρ', e3, hi3⟩ := ih (n + 1) (by omega) ρ2 hlt hi2
    refine ⟨ρ', ?_, hi3⟩
    rw [List.drop_eq_getElem_cons hlt]
    unfold forF
    rw [e1]
    show after (B ρ1) (forF T B (ds.drop (n + 1))) = _
    rw [e2, after_nx, e3]
theorem for_inv {T : Tgt} {B : Env → Rs Out} {ds : List PyData} {ρ : Env} (I : Nat → Env → Prop) (h0 : I 0 ρ) (step : ∀ i d ρ, ds[i]? = some d → I i ρ → ∃ ρ1 ρ2, T d ρ = some ρ1 ∧ B ρ1 = .ok (.nx ρ2) ∧ I (i + 1) ρ2) :
    ∃ ρ', forF T B ds ρ = .ok (.nx ρ') ∧ I ds.length ρ' := forF_inv I step 0 ρ (Nat.zero_le _) h0
theorem bd_mul {a b : Int} {m n : Nat} (ha : a.natAbs < 2 ^ m) (hb : b.natAbs < 2 ^ n) : (a * b).natAbs < 2 ^ (m + n) := by
  rw [Int.natAbs_mul, Nat.pow_add]
  exact Nat.mul_lt_mul'' ha hb
theorem bd_add {a b : Int} {m : Nat} (ha : a.natAbs < 2 ^ m) (hb : b.natAbs < 2 ^ m) : (a + b).natAbs < 2 ^ (m + 1) := by
  rw [Nat.pow_succ]
  omega
theorem bd_sub {a b : Int} {m : Nat} (ha : a.natAbs < 2 ^ m) (hb : b.natAbs < 2 ^ m) : (a - b).natAbs < 2 ^ (m + 1) := by
  rw [Nat.pow_succ]
  omega
theorem bd_mono {a : Int} {m n : Nat} (ha : a.natAbs < 2 ^ m) (h : m ≤ n) : a.natAbs < 2 ^ n := Nat.lt_of_lt_of_le ha (Nat.pow_le_pow_right (by decide) h)
theorem bd_le {a b : Int} {m : Nat} (h : a.natAbs ≤ b.natAbs) (hb : b.natAbs < 2 ^ m) : a.natAbs < 2 ^ m := Nat.lt_of_le_of_lt h hb
end PF

namespace PF
open PySem L2
/-! ### the text by places -/
def topS (i : Nat) : Stmt := PySem.Challenge.pw_wallspace_k02_sums_and_products.main.body.getD i (.Pass ⟨0, 0, 0, 0⟩)
structure Blt (mg : Str → Option Value) : Prop where
  b_abs : mg "abs" = none
  b_bool : mg "bool" = none
  b_enumerate : mg "enumerate" = none
  b_int : mg "int" = none
  b_isinstance : mg "isinstance" = none
  b_len : mg "len" = none
  b_tuple : mg "tuple" = none
abbrev s_divisor : Stmt := topS 4
theorem sc_divisor : FnScope ["one", "other"] ["one", "other"] (defScope s_divisor) := ⟨rfl, rfl, rfl, by decide +kernel, rfl, by decide +kernel, by decide +kernel⟩
abbrev s_ratio : Stmt := topS 5
theorem sc_ratio : FnScope ["top", "bottom", "by"] ["top", "bottom"] (defScope s_ratio) := ⟨rfl, rfl, rfl, by decide +kernel, rfl, by decide +kernel, by decide +kernel⟩
abbrev s_plus : Stmt := topS 6
theorem sc_plus : FnScope ["one", "other"] ["one", "other"] (defScope s_plus) := ⟨rfl, rfl, rfl, by decide +kernel, rfl, by decide +kernel, by decide +kernel⟩
abbrev s_minus : Stmt := topS 7
theorem sc_minus : FnScope ["one", "other"] ["one", "other"] (defScope s_minus) := ⟨rfl, rfl, rfl, by decide +kernel, rfl, by decide +kernel, by decide +kernel⟩
abbrev s_times : Stmt := topS 8
theorem sc_times : FnScope ["one", "other"] ["one", "other"] (defScope s_times) := ⟨rfl, rfl, rfl, by decide +kernel, rfl, by decide +kernel, by decide +kernel⟩
abbrev s__law_cell_at : Stmt := topS 10
theorem sc__law_cell_at : FnScope ["_law_script", "_law_k"] ["_law_script", "_law_k"] (defScope s__law_cell_at) := ⟨rfl, rfl, rfl, by decide +kernel, rfl, by decide +kernel, by decide +kernel⟩
abbrev s__law_whole : Stmt := topS 11
theorem sc__law_whole : FnScope ["_law_found"] ["_law_found"] (defScope s__law_whole) := ⟨rfl, rfl, rfl, by decide +kernel, rfl, by decide +kernel, by decide +kernel⟩
abbrev s__law_divisor : Stmt := topS 12
theorem sc__law_divisor : FnScope ["_law_one", "_law_other"] ["_law_one", "_law_other"] (defScope s__law_divisor) := ⟨rfl, rfl, rfl, by decide +kernel, rfl, by decide +kernel, by decide +kernel⟩
abbrev s__law_lowest : Stmt := topS 13
theorem sc__law_lowest : FnScope ["_law_top", "_law_bottom", "_law_by"] ["_law_top", "_law_bottom"] (defScope s__law_lowest) := ⟨rfl, rfl, rfl, by decide +kernel, rfl, by decide +kernel, by decide +kernel⟩
abbrev s__law_is_fraction : Stmt := topS 14
theorem sc__law_is_fraction : FnScope ["_law_found"] ["_law_found"] (defScope s__law_is_fraction) := ⟨rfl, rfl, rfl, by decide +kernel, rfl, by decide +kernel, by decide +kernel⟩
abbrev s__law_fraction_by : Stmt := topS 15
theorem sc__law_fraction_by : FnScope ["_law_cell", "_law_k", "_law_number", "_law_top"] ["_law_cell", "_law_k"] (defScope s__law_fraction_by) := ⟨rfl, rfl, rfl, by decide +kernel, rfl, by decide +kernel, by decide +kernel⟩
abbrev s__law_great : Stmt := topS 16
theorem sc__law_great : FnScope ["_law_one", "_law_other", "_law_top"] ["_law_one", "_law_other"] (defScope s__law_great) := ⟨rfl, rfl, rfl, by decide +kernel, rfl, by decide +kernel, by decide +kernel⟩
abbrev s__law_worth : Stmt := topS 17
theorem sc__law_worth : FnScope ["_law_found", "_law_top", "_law_bottom"] ["_law_found", "_law_top", "_law_bottom"] (defScope s__law_worth) := ⟨rfl, rfl, rfl, by decide +kernel, rfl, by decide +kernel, by decide +kernel⟩
abbrev s__law_fits : Stmt := topS 18
theorem sc__law_fits : FnScope ["_law_one", "_law_other", "_law_a", "_law_b", "_law_c", "_law_d"] ["_law_one", "_law_other"] (defScope s__law_fits) := ⟨rfl, rfl, rfl, by decide +kernel, rfl, by decide +kernel, by decide +kernel⟩
abbrev s_law : Stmt := topS 19
theorem sc_law : FnScope ["_law_script", "_law_total", "_law_tops", "_law_k", "_law_cell", "_law_one", "_law_pair", "_law_other"] ["_law_script"] (defScope s_law) := ⟨rfl, rfl, rfl, by decide +kernel, rfl, by decide +kernel, by decide +kernel⟩
/-! ### what each def computes -/
noncomputable def p1_divisor : Env → Rs Out :=
  (fFz 1 (fPar 0 1 (fCons (fVarS 1) (fCons (fOp modD (fVarB 0) (fVarB 1)) fNil))))
noncomputable def p2_divisor : Env → Rs Bool :=
  (fB (fOp gtD (fVarB 1) (fC (.int 0))))
noncomputable def b_divisor : Env → Rs Out :=
  (fSeq (fSet 0 (fV (fUn absD (fVarB 0))))
  (fSeq (fSet 1 (fV (fUn absD (fVarB 1))))
  (fSeq (whL p2_divisor
  p1_divisor)
  (fRetVar 0))))
noncomputable def f_divisor : List PyData → Rs Sl := fnOf 2 2 b_divisor
noncomputable def b_ratio : Env → Rs Out :=
  (fSeq (fIf (fB (fOp eqD (fVarB 1) (fC (.int 0))))
  fNever
  fSkip)
  (fSeq (fSet 2 (fCall f_divisor (fCons (fVarS 0) (fCons (fVarS 1) fNil))))
  (fSeq (fIf (fB (fOp ltD (fVarB 1) (fC (.int 0))))
  (fSet 2 (fV (fOp subD (fC (.int 0)) (fVarB 2))))
  fSkip)
  (fRet (fV (fUn tupD (fCons (fOp divD (fVarB 0) (fVarB 2)) (fCons (fOp divD (fVarB 1) (fVarB 2)) fNil))))))))
noncomputable def f_ratio : List PyData → Rs Sl := fnOf 2 3 b_ratio
noncomputable def b_plus : Env → Rs Out :=
  (fRet (fCall f_ratio (fCons (fSh (fOp addD (fOp mulD (fOp ixD (fVarB 0) (fC (.int 0))) (fOp ixD (fVarB 1) (fC (.int 1)))) (fOp mulD (fOp ixD (fVarB 1) (fC (.int 0))) (fOp ixD (fVarB 0) (fC (.int 1)))))) (fCons (fOp mulD (fOp ixD (fVarB 0) (fC (.int 1))) (fOp ixD (fVarB 1) (fC (.int 1)))) fNil))))
noncomputable def f_plus : List PyData → Rs Sl := fnOf 2 2 b_plus
noncomputable def b_minus : Env → Rs Out :=
  (fRet (fCall f_ratio (fCons (fOp subD (fOp mulD (fOp ixD (fVarB 0) (fC (.int 0))) (fOp ixD (fVarB 1) (fC (.int 1)))) (fOp mulD (fOp ixD (fVarB 1) (fC (.int 0))) (fOp ixD (fVarB 0) (fC (.int 1))))) (fCons (fOp mulD (fOp ixD (fVarB 0) (fC (.int 1))) (fOp ixD (fVarB 1) (fC (.int 1)))) fNil))))
noncomputable def f_minus : List PyData → Rs Sl := fnOf 2 2 b_minus
noncomputable def b_times : Env → Rs Out :=
  (fRet (fCall f_ratio (fCons (fOp mulD (fOp ixD (fVarB 0) (fC (.int 0))) (fOp ixD (fVarB 1) (fC (.int 0)))) (fCons (fOp mulD (fOp ixD (fVarB 0) (fC (.int 1))) (fOp ixD (fVarB 1) (fC (.int 1)))) fNil))))
noncomputable def f_times : List PyData → Rs Sl := fnOf 2 2 b_times
noncomputable def b__law_cell_at : Env → Rs Out :=
  (fSeq (fIf (fB (fOp ltD (fVarB 1) (fUn lenD (fVarB 0))))
  (fRet (fV (fOp ixD (fVarB 0) (fVarB 1))))
  fSkip)
  (fRet (fV (fC (.int 0)))))
noncomputable def f__law_cell_at : List PyData → Rs Sl := fnOf 2 2 b__law_cell_at
noncomputable def b__law_whole : Env → Rs Out :=
  (fRet (fV (fAndV (fUn (isiD "int") (fVarB 0)) (fNotV (fUn (isiD "bool") (fVarB 0))))))
noncomputable def f__law_whole : List PyData → Rs Sl := fnOf 1 1 b__law_whole
noncomputable def p1__law_divisor : Env → Rs Out :=
  (fFz 1 (fPar 0 1 (fCons (fVarS 1) (fCons (fOp modD (fVarB 0) (fVarB 1)) fNil))))
noncomputable def p2__law_divisor : Env → Rs Bool :=
  (fB (fOp gtD (fVarB 1) (fC (.int 0))))
noncomputable def b__law_divisor : Env → Rs Out :=
  (fSeq (fSet 0 (fV (fUn absD (fVarB 0))))
  (fSeq (fSet 1 (fV (fUn absD (fVarB 1))))
  (fSeq (whL p2__law_divisor
  p1__law_divisor)
  (fRetVar 0))))
noncomputable def f__law_divisor : List PyData → Rs Sl := fnOf 2 2 b__law_divisor
noncomputable def b__law_lowest : Env → Rs Out :=
  (fSeq (fSet 2 (fCall f__law_divisor (fCons (fVarS 0) (fCons (fVarS 1) fNil))))
  (fSeq (fIf (fB (fOp ltD (fVarB 1) (fC (.int 0))))
  (fSet 2 (fV (fOp subD (fC (.int 0)) (fVarB 2))))
  fSkip)
  (fRet (fV (fUn tupD (fCons (fOp divD (fVarB 0) (fVarB 2)) (fCons (fOp divD (fVarB 1) (fVarB 2)) fNil)))))))
noncomputable def f__law_lowest : List PyData → Rs Sl := fnOf 2 3 b__law_lowest
noncomputable def b__law_is_fraction : Env → Rs Out :=
  (fSeq (fIf (fOr (fNot (fB (fUn (isiD "tuple") (fVarB 0)))) (fOr (fB (fOp neD (fUn lenD (fVarB 0)) (fC (.int 2)))) (fOr (fNot (fB (fSh (fCall f__law_whole (fCons (fOp ixD (fVarB 0) (fC (.int 0))) fNil))))) (fNot (fB (fSh (fCall f__law_whole (fCons (fOp ixD (fVarB 0) (fC (.int 1))) fNil))))))))
  (fRet (fV (fC (.bool false))))
  fSkip)
  (fRet (fV (fAndV (fOp gtD (fOp ixD (fVarB 0) (fC (.int 1))) (fC (.int 0))) (fOp eqD (fSh (fCall f__law_divisor (fCons (fOp ixD (fVarB 0) (fC (.int 0))) (fCons (fOp ixD (fVarB 0) (fC (.int 1))) fNil)))) (fC (.int 1)))))))
noncomputable def f__law_is_fraction : List PyData → Rs Sl := fnOf 1 1 b__law_is_fraction
noncomputable def b__law_fraction_by : Env → Rs Out :=
  (fSeq (fSet 2 (fOp addD (fOp modD (fVarB 0) (fOp powD (fC (.int 10)) (fC (.int 18)))) (fOp mulD (fC (.int 48271)) (fSh (fOp addD (fVarB 1) (fC (.int 1)))))))
  (fSeq (fSet 2 (fOp addD (fOp modD (fOp mulD (fVarB 2) (fVarB 2)) (fC (.int 2147483629))) (fOp mulD (fC (.int 69621)) (fVarB 1))))
  (fSeq (fSet 2 (fV (fOp modD (fOp mulD (fVarB 2) (fVarB 2)) (fC (.int 2147483587)))))
  (fSeq (fSet 3 (fV (fOp ixD (fSh (fUn lstD (fCons (fOp subD (fOp modD (fOp divD (fVarB 2) (fC (.int 6))) (fC (.int 13))) (fC (.int 6))) (fCons (fOp subD (fOp modD (fOp divD (fVarB 2) (fC (.int 18))) (fC (.int 200001))) (fOp powD (fC (.int 10)) (fC (.int 5)))) (fCons (fOp subD (fOp modD (fVarB 0) (fOp mulD (fC (.int 2)) (fOp powD (fC (.int 10)) (fC (.int 9))))) (fOp powD (fC (.int 10)) (fC (.int 9)))) fNil))))) (fOp modD (fOp divD (fVarB 2) (fC (.int 6))) (fC (.int 3))))))
  (fFz 3 (fRet (fCall f__law_lowest (fCons (fVarS 3) (fCons (fSh (fOp addD (fC (.int 1)) (fOp modD (fVarB 2) (fC (.int 6))))) fNil)))))))))
noncomputable def f__law_fraction_by : List PyData → Rs Sl := fnOf 2 4 b__law_fraction_by
noncomputable def b__law_great : Env → Rs Out :=
  (fSeq (fSet 2 (fV (fOp subD (fOp modD (fVarB 0) (fOp subD (fOp mulD (fC (.int 2)) (fOp powD (fC (.int 10)) (fC (.int 60)))) (fC (.int 1)))) (fOp subD (fOp powD (fC (.int 10)) (fC (.int 60))) (fC (.int 1))))))
  (fRet (fCall f__law_lowest (fCons (fVarS 2) (fCons (fSh (fOp addD (fC (.int 1)) (fOp modD (fVarB 1) (fOp subD (fOp powD (fC (.int 10)) (fC (.int 60))) (fC (.int 1)))))) fNil)))))
noncomputable def f__law_great : List PyData → Rs Sl := fnOf 2 3 b__law_great
noncomputable def b__law_worth : Env → Rs Out :=
  (fRet (fV (fAndV (fSh (fCall f__law_is_fraction (fCons (fVarS 0) fNil))) (fOp eqD (fOp mulD (fOp ixD (fVarB 0) (fC (.int 0))) (fVarB 2)) (fOp mulD (fVarB 1) (fOp ixD (fVarB 0) (fC (.int 1))))))))
noncomputable def f__law_worth : List PyData → Rs Sl := fnOf 3 3 b__law_worth
noncomputable def b__law_fits : Env → Rs Out :=
  (fSeq (fAsg (tgT 2 (tgCons (tgN 2) (tgCons (tgN 3) tgNil))) (fVarS 0))
  (fSeq (fAsg (tgT 2 (tgCons (tgN 4) (tgCons (tgN 5) tgNil))) (fVarS 1))
  (fSeq (fIf (fNot (fB (fSh (fCall f__law_worth (fCons (fSh (fCall f_plus (fCons (fVarS 0) (fCons (fVarS 1) fNil)))) (fCons (fSh (fOp addD (fOp mulD (fVarB 2) (fVarB 5)) (fOp mulD (fVarB 4) (fVarB 3)))) (fCons (fOp mulD (fVarB 3) (fVarB 5)) fNil)))))))
  (fRet (fV (fC (.bool false))))
  fSkip)
  (fRet (fV (fAndV (fSh (fCall f__law_worth (fCons (fSh (fCall f_minus (fCons (fVarS 0) (fCons (fVarS 1) fNil)))) (fCons (fOp subD (fOp mulD (fVarB 2) (fVarB 5)) (fOp mulD (fVarB 4) (fVarB 3))) (fCons (fOp mulD (fVarB 3) (fVarB 5)) fNil))))) (fSh (fCall f__law_worth (fCons (fSh (fCall f_times (fCons (fVarS 0) (fCons (fVarS 1) fNil)))) (fCons (fOp mulD (fVarB 2) (fVarB 4)) (fCons (fOp mulD (fVarB 3) (fVarB 5)) fNil)))))))))))
noncomputable def f__law_fits : List PyData → Rs Sl := fnOf 2 6 b__law_fits
noncomputable def p1_law : Env → Rs Out :=
  (fSeq (fSet 5 (fCall f__law_fraction_by (fCons (fVarS 4) (fCons (fVarS 3) fNil))))
   (fSeq (fSet 6 (fV (fOp ixD (fSh (fUn lstD (fCons (fUn tupD (fCons (fVarS 1) (fCons (fVarS 5) fNil))) (fCons (fUn tupD (fCons (fVarS 5) (fCons (fVarS 1) fNil))) fNil)))) (fOp modD (fSh (fOp addD (fVarB 4) (fVarB 3))) (fC (.int 2))))))
   (fSeq (fIf (fNot (fB (fSh (fCall f__law_fits (fCons (fOp ixD (fVarB 6) (fC (.int 0))) (fCons (fOp ixD (fVarB 6) (fC (.int 1))) fNil))))))
   (fRet (fV (fC (.bool false))))
   fSkip)
   (fSeq (fSet 2 (fOp addD (fVarB 2) (fOp mulD (fOp ixD (fVarB 5) (fC (.int 0))) (fOp divD (fC (.int 60)) (fOp ixD (fVarB 5) (fC (.int 1)))))))
   (fSet 1 (fCall f_plus (fCons (fVarS 1) (fCons (fVarS 5) fNil))))))))
noncomputable def b_law : Env → Rs Out :=
  (fSeq (fSet 1 (fV (fUn tupD (fCons (fC (.int 0)) (fCons (fC (.int 1)) fNil)))))
  (fSeq (fSet 2 (fV (fC (.int 0))))
  (fSeq (fFor (fIt enumD (fCons (fSh (fSl (fVarB 0) fNone (fSome (fC (.int 63))))) fNil)) (tgT 2 (tgCons (tgN 3) (tgCons (tgN 4) tgNil)))
  p1_law)
  (fSeq (fIf (fNot (fB (fSh (fCall f__law_worth (fCons (fVarS 1) (fCons (fVarS 2) (fCons (fC (.int 60)) fNil)))))))
  (fRet (fV (fC (.bool false))))
  fSkip)
  (fSeq (fSet 5 (fCall f__law_great (fCons (fSh (fCall f__law_cell_at (fCons (fVarS 0) (fCons (fC (.int 0)) fNil)))) (fCons (fSh (fCall f__law_cell_at (fCons (fVarS 0) (fCons (fC (.int 1)) fNil)))) fNil))))
  (fSeq (fSet 7 (fCall f__law_great (fCons (fSh (fCall f__law_cell_at (fCons (fVarS 0) (fCons (fC (.int 2)) fNil)))) (fCons (fSh (fCall f__law_cell_at (fCons (fVarS 0) (fCons (fC (.int 3)) fNil)))) fNil))))
  (fRet (fV (fAndV (fSh (fCall f__law_fits (fCons (fVarS 5) (fCons (fVarS 7) fNil)))) (fSh (fCall f__law_fits (fCons (fVarS 7) (fCons (fVarS 5) fNil)))))))))))))
noncomputable def f_law : List PyData → Rs Sl := fnOf 1 8 b_law
/-! ### each def keeps its promise -/
section
variable {P : Program} {w : World} {K : PySem.W.Frag} {mg : Str → Option Value} {base : Heap} {ca : Nat → Addr}
theorem ok_divisor {f : Addr} {fd : FuncData} (T : Blt mg)  (F : Fun K "divisor" "divisor" s_divisor f fd) : FnOk P w K mg base (L2.CX P w) 1 f fd ["one", "other"] (spF ⟨K, ca⟩ (fnOf 2 2 b_divisor) 2) :=
  fn_ok (k := 0) F sc_divisor b_divisor fun cdv A outer s H E hr o => ⟨_,
  (jps_cons (jp_set (i := 0) (jv_s (js_abs (jb_var 0 (pv 0)) T.b_abs)) o.nd rfl (by first | exact .inl rfl | exact .inr rfl))
  (jps_cons (jp_set (i := 1) (jv_s (js_abs (jb_var 1 (pv 1)) T.b_abs)) o.nd rfl (by first | exact .inl rfl | exact .inr rfl))
  (jps_cons (jp_while (jt_cmp op_gt opsem_gt (nomark _) (jb_var 1 (pv 1)) (jb_s js_int))
  (jps_one (jp_fzF 1 (jp_par (i := 0) (j := 1) (ja_cons (js_var 1 (pv 1)) (ja_cons (js_mod (jb_var 0 (pv 0)) (jb_var 1 (pv 1))) ja_nil)) o.calm o.nd rfl rfl (by decide) rfl rfl))) o.pas)
  (jps_one (jp_retVar 0 (pv 0))))))⟩
theorem ok_ratio {f : Addr} {fd : FuncData} (T : Blt mg) (C_divisor : Callee P w K mg base ca "divisor" 1 f_divisor 2) (F : Fun K "ratio" "ratio" s_ratio f fd) : FnOk P w K mg base (L2.CX P w) 2 f fd ["top", "bottom"] (spF ⟨K, ca⟩ (fnOf 2 3 b_ratio) 2) :=
  fn_ok (k := 1) F sc_ratio b_ratio fun cdv A outer s H E hr o => ⟨_,
  (jps_cons (jp_if (jt_cmp (op_eqD (by have := o.un; omega)) opsem_eq (nomark _) (jb_var 1 (pv 1)) (jb_s js_int))
  (jps_one jp_never)
  jps_nil)
  (jps_cons (jp_set (i := 2) (jv_call C_divisor (hr.mono (by decide)) o.call (ja_cons (js_var 0 (pv 0)) (ja_cons (js_var 1 (pv 1)) ja_nil))) o.nd rfl (by first | exact .inl rfl | exact .inr rfl))
  (jps_cons (jp_if (jt_cmp op_lt opsem_lt (nomark _) (jb_var 1 (pv 1)) (jb_s js_int))
  (jps_one (jp_set (i := 2) (jv_s (js_sub (jb_s js_int) (jb_var 2 (pv 2)))) o.nd rfl (by first | exact .inl rfl | exact .inr rfl)))
  jps_nil)
  (jps_one (jp_ret (jv_s (js_tup (ja_cons (js_div (jb_var 0 (pv 0)) (jb_var 2 (pv 2))) (ja_cons (js_div (jb_var 1 (pv 1)) (jb_var 2 (pv 2))) ja_nil)))))))))⟩
theorem ok_plus {f : Addr} {fd : FuncData} (T : Blt mg) (C_ratio : Callee P w K mg base ca "ratio" 2 f_ratio 2) (F : Fun K "plus" "plus" s_plus f fd) : FnOk P w K mg base (L2.CX P w) 3 f fd ["one", "other"] (spF ⟨K, ca⟩ (fnOf 2 2 b_plus) 2) :=
  fn_ok (k := 2) F sc_plus b_plus fun cdv A outer s H E hr o => ⟨_,
  (jps_one (jp_ret (jv_call C_ratio (hr.mono (by decide)) o.call (ja_cons (js_v (jv_add (jb_s (js_mul (jb_s (js_ix (jb_var 0 (pv 0)) (jb_s js_int))) (jb_s (js_ix (jb_var 1 (pv 1)) (jb_s js_int))))) (jb_s (js_mul (jb_s (js_ix (jb_var 1 (pv 1)) (jb_s js_int))) (jb_s (js_ix (jb_var 0 (pv 0)) (jb_s js_int))))))) (ja_cons (js_mul (jb_s (js_ix (jb_var 0 (pv 0)) (jb_s js_int))) (jb_s (js_ix (jb_var 1 (pv 1)) (jb_s js_int)))) ja_nil)))))⟩
theorem ok_minus {f : Addr} {fd : FuncData} (T : Blt mg) (C_ratio : Callee P w K mg base ca "ratio" 2 f_ratio 2) (F : Fun K "minus" "minus" s_minus f fd) : FnOk P w K mg base (L2.CX P w) 3 f fd ["one", "other"] (spF ⟨K, ca⟩ (fnOf 2 2 b_minus) 2) :=
  fn_ok (k := 2) F sc_minus b_minus fun cdv A outer s H E hr o => ⟨_,
  (jps_one (jp_ret (jv_call C_ratio (hr.mono (by decide)) o.call (ja_cons (js_sub (jb_s (js_mul (jb_s (js_ix (jb_var 0 (pv 0)) (jb_s js_int))) (jb_s (js_ix (jb_var 1 (pv 1)) (jb_s js_int))))) (jb_s (js_mul (jb_s (js_ix (jb_var 1 (pv 1)) (jb_s js_int))) (jb_s (js_ix (jb_var 0 (pv 0)) (jb_s js_int)))))) (ja_cons (js_mul (jb_s (js_ix (jb_var 0 (pv 0)) (jb_s js_int))) (jb_s (js_ix (jb_var 1 (pv 1)) (jb_s js_int)))) ja_nil)))))⟩
theorem ok_times {f : Addr} {fd : FuncData} (T : Blt mg) (C_ratio : Callee P w K mg base ca "ratio" 2 f_ratio 2) (F : Fun K "times" "times" s_times f fd) : FnOk P w K mg base (L2.CX P w) 3 f fd ["one", "other"] (spF ⟨K, ca⟩ (fnOf 2 2 b_times) 2) :=
  fn_ok (k := 2) F sc_times b_times fun cdv A outer s H E hr o => ⟨_,
  (jps_one (jp_ret (jv_call C_ratio (hr.mono (by decide)) o.call (ja_cons (js_mul (jb_s (js_ix (jb_var 0 (pv 0)) (jb_s js_int))) (jb_s (js_ix (jb_var 1 (pv 1)) (jb_s js_int)))) (ja_cons (js_mul (jb_s (js_ix (jb_var 0 (pv 0)) (jb_s js_int))) (jb_s (js_ix (jb_var 1 (pv 1)) (jb_s js_int)))) ja_nil)))))⟩
theorem ok__law_cell_at {f : Addr} {fd : FuncData} (T : Blt mg)  (F : Fun K "_law_cell_at" "_law_cell_at" s__law_cell_at f fd) : FnOk P w K mg base (L2.CX P w) 1 f fd ["_law_script", "_law_k"] (spF ⟨K, ca⟩ (fnOf 2 2 b__law_cell_at) 2) :=
  fn_ok (k := 0) F sc__law_cell_at b__law_cell_at fun cdv A outer s H E hr o => ⟨_,
  (jps_cons (jp_if (jt_cmp op_lt opsem_lt (nomark _) (jb_var 1 (pv 1)) (jb_s (js_len (jb_var 0 (pv 0)) T.b_len)))
  (jps_one (jp_ret (jv_s (js_ix (jb_var 0 (pv 0)) (jb_var 1 (pv 1))))))
  jps_nil)
  (jps_one (jp_ret (jv_s js_int))))⟩
theorem ok__law_whole {f : Addr} {fd : FuncData} (T : Blt mg)  (F : Fun K "_law_whole" "_law_whole" s__law_whole f fd) : FnOk P w K mg base (L2.CX P w) 1 f fd ["_law_found"] (spF ⟨K, ca⟩ (fnOf 1 1 b__law_whole) 1) :=
  fn_ok (k := 0) F sc__law_whole b__law_whole fun cdv A outer s H E hr o => ⟨_,
  (jps_one (jp_ret (jv_s (js_and (js_isi "int" (jb_var 0 (pv 0)) T.b_isinstance T.b_int (by decide +kernel)) (js_one (js_not (js_isi "bool" (jb_var 0 (pv 0)) T.b_isinstance T.b_bool (by decide +kernel))))))))⟩
theorem ok__law_divisor {f : Addr} {fd : FuncData} (T : Blt mg)  (F : Fun K "_law_divisor" "_law_divisor" s__law_divisor f fd) : FnOk P w K mg base (L2.CX P w) 1 f fd ["_law_one", "_law_other"] (spF ⟨K, ca⟩ (fnOf 2 2 b__law_divisor) 2) :=
  fn_ok (k := 0) F sc__law_divisor b__law_divisor fun cdv A outer s H E hr o => ⟨_,
  (jps_cons (jp_set (i := 0) (jv_s (js_abs (jb_var 0 (pv 0)) T.b_abs)) o.nd rfl (by first | exact .inl rfl | exact .inr rfl))
  (jps_cons (jp_set (i := 1) (jv_s (js_abs (jb_var 1 (pv 1)) T.b_abs)) o.nd rfl (by first | exact .inl rfl | exact .inr rfl))
  (jps_cons (jp_while (jt_cmp op_gt opsem_gt (nomark _) (jb_var 1 (pv 1)) (jb_s js_int))
  (jps_one (jp_fzF 1 (jp_par (i := 0) (j := 1) (ja_cons (js_var 1 (pv 1)) (ja_cons (js_mod (jb_var 0 (pv 0)) (jb_var 1 (pv 1))) ja_nil)) o.calm o.nd rfl rfl (by decide) rfl rfl))) o.pas)
  (jps_one (jp_retVar 0 (pv 0))))))⟩
theorem ok__law_lowest {f : Addr} {fd : FuncData} (T : Blt mg) (C__law_divisor : Callee P w K mg base ca "_law_divisor" 1 f__law_divisor 2) (F : Fun K "_law_lowest" "_law_lowest" s__law_lowest f fd) : FnOk P w K mg base (L2.CX P w) 2 f fd ["_law_top", "_law_bottom"] (spF ⟨K, ca⟩ (fnOf 2 3 b__law_lowest) 2) :=
  fn_ok (k := 1) F sc__law_lowest b__law_lowest fun cdv A outer s H E hr o => ⟨_,
  (jps_cons (jp_set (i := 2) (jv_call C__law_divisor (hr.mono (by decide)) o.call (ja_cons (js_var 0 (pv 0)) (ja_cons (js_var 1 (pv 1)) ja_nil))) o.nd rfl (by first | exact .inl rfl | exact .inr rfl))
  (jps_cons (jp_if (jt_cmp op_lt opsem_lt (nomark _) (jb_var 1 (pv 1)) (jb_s js_int))
  (jps_one (jp_set (i := 2) (jv_s (js_sub (jb_s js_int) (jb_var 2 (pv 2)))) o.nd rfl (by first | exact .inl rfl | exact .inr rfl)))
  jps_nil)
  (jps_one (jp_ret (jv_s (js_tup (ja_cons (js_div (jb_var 0 (pv 0)) (jb_var 2 (pv 2))) (ja_cons (js_div (jb_var 1 (pv 1)) (jb_var 2 (pv 2))) ja_nil))))))))⟩
theorem ok__law_is_fraction {f : Addr} {fd : FuncData} (T : Blt mg) (C__law_whole : Callee P w K mg base ca "_law_whole" 1 f__law_whole 1) (C__law_divisor : Callee P w K mg base ca "_law_divisor" 1 f__law_divisor 2) (F : Fun K "_law_is_fraction" "_law_is_fraction" s__law_is_fraction f fd) : FnOk P w K mg base (L2.CX P w) 2 f fd ["_law_found"] (spF ⟨K, ca⟩ (fnOf 1 1 b__law_is_fraction) 1) :=
  fn_ok (k := 1) F sc__law_is_fraction b__law_is_fraction fun cdv A outer s H E hr o => ⟨_,
  (jps_cons (jp_if (jt_w (jw_or (jt_not (jt_val (js_isi "tuple" (jb_var 0 (pv 0)) T.b_isinstance T.b_tuple (by decide +kernel)))) (jw_or (jt_cmp (op_neD (by have := o.un; omega)) opsem_ne (nomark _) (jb_s (js_len (jb_var 0 (pv 0)) T.b_len)) (jb_s js_int)) (jw_or (jt_not (jt_val (js_v (jv_call C__law_whole (hr.mono (by decide)) o.call (ja_cons (js_ix (jb_var 0 (pv 0)) (jb_s js_int)) ja_nil))))) (jw_or1 (jt_not (jt_val (js_v (jv_call C__law_whole (hr.mono (by decide)) o.call (ja_cons (js_ix (jb_var 0 (pv 0)) (jb_s js_int)) ja_nil))))))))))
  (jps_one (jp_ret (jv_s js_bl)))
  jps_nil)
  (jps_one (jp_ret (jv_s (js_and (js_cmp op_gt opsem_gt (nomark _) (jb_s (js_ix (jb_var 0 (pv 0)) (jb_s js_int))) (jb_s js_int)) (js_one (js_cmp (op_eqD (by have := o.un; omega)) opsem_eq (nomark _) (jb_s (js_v (jv_call C__law_divisor (hr.mono (by decide)) o.call (ja_cons (js_ix (jb_var 0 (pv 0)) (jb_s js_int)) (ja_cons (js_ix (jb_var 0 (pv 0)) (jb_s js_int)) ja_nil))))) (jb_s js_int))))))))⟩
theorem ok__law_fraction_by {f : Addr} {fd : FuncData} (T : Blt mg) (C__law_lowest : Callee P w K mg base ca "_law_lowest" 2 f__law_lowest 2) (F : Fun K "_law_fraction_by" "_law_fraction_by" s__law_fraction_by f fd) : FnOk P w K mg base (L2.CX P w) 3 f fd ["_law_cell", "_law_k"] (spF ⟨K, ca⟩ (fnOf 2 4 b__law_fraction_by) 2) :=
  fn_ok (k := 2) F sc__law_fraction_by b__law_fraction_by fun cdv A outer s H E hr o => ⟨_,
  (jps_cons (jp_set (i := 2) (jv_add (jb_s (js_mod (jb_var 0 (pv 0)) (jb_s (js_pow (jb_s js_int) (jb_s js_int))))) (jb_s (js_mul (jb_s js_int) (jb_s (js_v (jv_add (jb_var 1 (pv 1)) (jb_s js_int))))))) o.nd rfl (by first | exact .inl rfl | exact .inr rfl))
  (jps_cons (jp_set (i := 2) (jv_add (jb_s (js_mod (jb_s (js_mul (jb_var 2 (pv 2)) (jb_var 2 (pv 2)))) (jb_s js_int))) (jb_s (js_mul (jb_s js_int) (jb_var 1 (pv 1))))) o.nd rfl (by first | exact .inl rfl | exact .inr rfl))
  (jps_cons (jp_set (i := 2) (jv_s (js_mod (jb_s (js_mul (jb_var 2 (pv 2)) (jb_var 2 (pv 2)))) (jb_s js_int))) o.nd rfl (by first | exact .inl rfl | exact .inr rfl))
  (jps_cons (jp_set (i := 3) (jv_s (js_ix (jb_s (js_v (jv_lst (ja_cons (js_sub (jb_s (js_mod (jb_s (js_div (jb_var 2 (pv 2)) (jb_s js_int))) (jb_s js_int))) (jb_s js_int)) (ja_cons (js_sub (jb_s (js_mod (jb_s (js_div (jb_var 2 (pv 2)) (jb_s js_int))) (jb_s js_int))) (jb_s (js_pow (jb_s js_int) (jb_s js_int)))) (ja_cons (js_sub (jb_s (js_mod (jb_var 0 (pv 0)) (jb_s (js_mul (jb_s js_int) (jb_s (js_pow (jb_s js_int) (jb_s js_int))))))) (jb_s (js_pow (jb_s js_int) (jb_s js_int)))) ja_nil)))))) (jb_s (js_mod (jb_s (js_div (jb_var 2 (pv 2)) (jb_s js_int))) (jb_s js_int))))) o.nd rfl (by first | exact .inl rfl | exact .inr rfl))
  (jps_one (jp_fzF 3 (jp_ret (jv_call C__law_lowest (hr.mono (by decide)) o.call (ja_cons (js_var 3 (pv 3)) (ja_cons (js_v (jv_add (jb_s js_int) (jb_s (js_mod (jb_var 2 (pv 2)) (jb_s js_int))))) ja_nil))))))))))⟩
theorem ok__law_great {f : Addr} {fd : FuncData} (T : Blt mg) (C__law_lowest : Callee P w K mg base ca "_law_lowest" 2 f__law_lowest 2) (F : Fun K "_law_great" "_law_great" s__law_great f fd) : FnOk P w K mg base (L2.CX P w) 3 f fd ["_law_one", "_law_other"] (spF ⟨K, ca⟩ (fnOf 2 3 b__law_great) 2) :=
  fn_ok (k := 2) F sc__law_great b__law_great fun cdv A outer s H E hr o => ⟨_,
  (jps_cons (jp_set (i := 2) (jv_s (js_sub (jb_s (js_mod (jb_var 0 (pv 0)) (jb_s (js_sub (jb_s (js_mul (jb_s js_int) (jb_s (js_pow (jb_s js_int) (jb_s js_int))))) (jb_s js_int))))) (jb_s (js_sub (jb_s (js_pow (jb_s js_int) (jb_s js_int))) (jb_s js_int))))) o.nd rfl (by first | exact .inl rfl | exact .inr rfl))
  (jps_one (jp_ret (jv_call C__law_lowest (hr.mono (by decide)) o.call (ja_cons (js_var 2 (pv 2)) (ja_cons (js_v (jv_add (jb_s js_int) (jb_s (js_mod (jb_var 1 (pv 1)) (jb_s (js_sub (jb_s (js_pow (jb_s js_int) (jb_s js_int))) (jb_s js_int))))))) ja_nil))))))⟩
theorem ok__law_worth {f : Addr} {fd : FuncData} (T : Blt mg) (C__law_is_fraction : Callee P w K mg base ca "_law_is_fraction" 2 f__law_is_fraction 1) (F : Fun K "_law_worth" "_law_worth" s__law_worth f fd) : FnOk P w K mg base (L2.CX P w) 3 f fd ["_law_found", "_law_top", "_law_bottom"] (spF ⟨K, ca⟩ (fnOf 3 3 b__law_worth) 3) :=
  fn_ok (k := 2) F sc__law_worth b__law_worth fun cdv A outer s H E hr o => ⟨_,
  (jps_one (jp_ret (jv_s (js_and (js_v (jv_call C__law_is_fraction (hr.mono (by decide)) o.call (ja_cons (js_var 0 (pv 0)) ja_nil))) (js_one (js_cmp (op_eqD (by have := o.un; omega)) opsem_eq (nomark _) (jb_s (js_mul (jb_s (js_ix (jb_var 0 (pv 0)) (jb_s js_int))) (jb_var 2 (pv 2)))) (jb_s (js_mul (jb_var 1 (pv 1)) (jb_s (js_ix (jb_var 0 (pv 0)) (jb_s js_int)))))))))))⟩
theorem ok__law_fits {f : Addr} {fd : FuncData} (T : Blt mg) (C_plus : Callee P w K mg base ca "plus" 3 f_plus 2) (C_minus : Callee P w K mg base ca "minus" 3 f_minus 2) (C_times : Callee P w K mg base ca "times" 3 f_times 2) (C__law_worth : Callee P w K mg base ca "_law_worth" 3 f__law_worth 3) (F : Fun K "_law_fits" "_law_fits" s__law_fits f fd) : FnOk P w K mg base (L2.CX P w) 4 f fd ["_law_one", "_law_other"] (spF ⟨K, ca⟩ (fnOf 2 6 b__law_fits) 2) :=
  fn_ok (k := 3) F sc__law_fits b__law_fits fun cdv A outer s H E hr o => ⟨_,
  (jps_cons (jp_asg (js_var 0 (pv 0)) (jg_tup (jgs_cons (jg_name (i := 2) o.nd rfl (by first | exact .inl rfl | exact .inr rfl)) (jgs_cons (jg_name (i := 3) o.nd rfl (by first | exact .inl rfl | exact .inr rfl)) jgs_nil)) o.calm))
  (jps_cons (jp_asg (js_var 1 (pv 1)) (jg_tup (jgs_cons (jg_name (i := 4) o.nd rfl (by first | exact .inl rfl | exact .inr rfl)) (jgs_cons (jg_name (i := 5) o.nd rfl (by first | exact .inl rfl | exact .inr rfl)) jgs_nil)) o.calm))
  (jps_cons (jp_if (jt_not (jt_val (js_v (jv_call C__law_worth (hr.mono (by decide)) o.call (ja_cons (js_v (jv_call C_plus (hr.mono (by decide)) o.call (ja_cons (js_var 0 (pv 0)) (ja_cons (js_var 1 (pv 1)) ja_nil)))) (ja_cons (js_v (jv_add (jb_s (js_mul (jb_var 2 (pv 2)) (jb_var 5 (pv 5)))) (jb_s (js_mul (jb_var 4 (pv 4)) (jb_var 3 (pv 3)))))) (ja_cons (js_mul (jb_var 3 (pv 3)) (jb_var 5 (pv 5))) ja_nil)))))))
  (jps_one (jp_ret (jv_s js_bl)))
  jps_nil)
  (jps_one (jp_ret (jv_s (js_and (js_v (jv_call C__law_worth (hr.mono (by decide)) o.call (ja_cons (js_v (jv_call C_minus (hr.mono (by decide)) o.call (ja_cons (js_var 0 (pv 0)) (ja_cons (js_var 1 (pv 1)) ja_nil)))) (ja_cons (js_sub (jb_s (js_mul (jb_var 2 (pv 2)) (jb_var 5 (pv 5)))) (jb_s (js_mul (jb_var 4 (pv 4)) (jb_var 3 (pv 3))))) (ja_cons (js_mul (jb_var 3 (pv 3)) (jb_var 5 (pv 5))) ja_nil))))) (js_one (js_v (jv_call C__law_worth (hr.mono (by decide)) o.call (ja_cons (js_v (jv_call C_times (hr.mono (by decide)) o.call (ja_cons (js_var 0 (pv 0)) (ja_cons (js_var 1 (pv 1)) ja_nil)))) (ja_cons (js_mul (jb_var 2 (pv 2)) (jb_var 4 (pv 4))) (ja_cons (js_mul (jb_var 3 (pv 3)) (jb_var 5 (pv 5))) ja_nil)))))))))))))⟩
theorem ok_law {f : Addr} {fd : FuncData} (T : Blt mg) (C_plus : Callee P w K mg base ca "plus" 3 f_plus 2) (C__law_cell_at : Callee P w K mg base ca "_law_cell_at" 1 f__law_cell_at 2) (C__law_fraction_by : Callee P w K mg base ca "_law_fraction_by" 3 f__law_fraction_by 2) (C__law_great : Callee P w K mg base ca "_law_great" 3 f__law_great 2) (C__law_worth : Callee P w K mg base ca "_law_worth" 3 f__law_worth 3) (C__law_fits : Callee P w K mg base ca "_law_fits" 4 f__law_fits 2) (F : Fun K "law" "law" s_law f fd) : FnOk P w K mg base (L2.CX P w) 5 f fd ["_law_script"] (spF ⟨K, ca⟩ (fnOf 1 8 b_law) 1) :=
  fn_ok (k := 4) F sc_law b_law fun cdv A outer s H E hr o => ⟨_,
  (jps_cons (jp_set (i := 1) (jv_s (js_tup (ja_cons js_int (ja_cons js_int ja_nil)))) o.nd rfl (by first | exact .inl rfl | exact .inr rfl))
  (jps_cons (jp_set (i := 2) (jv_s js_int) o.nd rfl (by first | exact .inl rfl | exact .inr rfl))
  (jps_cons (jp_for (ji_enum (ja_cons (js_v (jv_slice (jb_var 0 (pv 0)) jo_none (jo_some (jb_s js_int)))) ja_nil) T.b_enumerate) (jg_tup (jgs_cons (jg_name (i := 3) o.nd rfl (by first | exact .inl rfl | exact .inr rfl)) (jgs_cons (jg_name (i := 4) o.nd rfl (by first | exact .inl rfl | exact .inr rfl)) jgs_nil)) o.calm)
  (jps_cons (jp_set (i := 5) (jv_call C__law_fraction_by (hr.mono (by decide)) o.call (ja_cons (js_var 4 (pv 4)) (ja_cons (js_var 3 (pv 3)) ja_nil))) o.nd rfl (by first | exact .inl rfl | exact .inr rfl))
   (jps_cons (jp_set (i := 6) (jv_s (js_ix (jb_s (js_v (jv_lst (ja_cons (js_tup (ja_cons (js_var 1 (pv 1)) (ja_cons (js_var 5 (pv 5)) ja_nil))) (ja_cons (js_tup (ja_cons (js_var 5 (pv 5)) (ja_cons (js_var 1 (pv 1)) ja_nil))) ja_nil))))) (jb_s (js_mod (jb_s (js_v (jv_add (jb_var 4 (pv 4)) (jb_var 3 (pv 3))))) (jb_s js_int))))) o.nd rfl (by first | exact .inl rfl | exact .inr rfl))
   (jps_cons (jp_if (jt_not (jt_val (js_v (jv_call C__law_fits (hr.mono (by decide)) o.call (ja_cons (js_ix (jb_var 6 (pv 6)) (jb_s js_int)) (ja_cons (js_ix (jb_var 6 (pv 6)) (jb_s js_int)) ja_nil))))))
   (jps_one (jp_ret (jv_s js_bl)))
   jps_nil)
   (jps_cons (jp_set (i := 2) (jv_add (jb_var 2 (pv 2)) (jb_s (js_mul (jb_s (js_ix (jb_var 5 (pv 5)) (jb_s js_int))) (jb_s (js_div (jb_s js_int) (jb_s (js_ix (jb_var 5 (pv 5)) (jb_s js_int)))))))) o.nd rfl (by first | exact .inl rfl | exact .inr rfl))
   (jps_one (jp_set (i := 1) (jv_call C_plus (hr.mono (by decide)) o.call (ja_cons (js_var 1 (pv 1)) (ja_cons (js_var 5 (pv 5)) ja_nil))) o.nd rfl (by first | exact .inl rfl | exact .inr rfl))))))) o.pas o.calm)
  (jps_cons (jp_if (jt_not (jt_val (js_v (jv_call C__law_worth (hr.mono (by decide)) o.call (ja_cons (js_var 1 (pv 1)) (ja_cons (js_var 2 (pv 2)) (ja_cons js_int ja_nil)))))))
  (jps_one (jp_ret (jv_s js_bl)))
  jps_nil)
  (jps_cons (jp_set (i := 5) (jv_call C__law_great (hr.mono (by decide)) o.call (ja_cons (js_v (jv_call C__law_cell_at (hr.mono (by decide)) o.call (ja_cons (js_var 0 (pv 0)) (ja_cons js_int ja_nil)))) (ja_cons (js_v (jv_call C__law_cell_at (hr.mono (by decide)) o.call (ja_cons (js_var 0 (pv 0)) (ja_cons js_int ja_nil)))) ja_nil))) o.nd rfl (by first | exact .inl rfl | exact .inr rfl))
  (jps_cons (jp_set (i := 7) (jv_call C__law_great (hr.mono (by decide)) o.call (ja_cons (js_v (jv_call C__law_cell_at (hr.mono (by decide)) o.call (ja_cons (js_var 0 (pv 0)) (ja_cons js_int ja_nil)))) (ja_cons (js_v (jv_call C__law_cell_at (hr.mono (by decide)) o.call (ja_cons (js_var 0 (pv 0)) (ja_cons js_int ja_nil)))) ja_nil))) o.nd rfl (by first | exact .inl rfl | exact .inr rfl))
  (jps_one (jp_ret (jv_s (js_and (js_v (jv_call C__law_fits (hr.mono (by decide)) o.call (ja_cons (js_var 5 (pv 5)) (ja_cons (js_var 7 (pv 7)) ja_nil)))) (js_one (js_v (jv_call C__law_fits (hr.mono (by decide)) o.call (ja_cons (js_var 7 (pv 7)) (ja_cons (js_var 5 (pv 5)) ja_nil)))))))))))))))⟩
end
/-! ### the end -/
theorem all_mk {l : PySem.W.OpenLaw} {w : World} {K : PySem.W.Frag} {h : Heap} {mg : Str → Option Value} {fa : Addr} (X : K.In h) (G : h.Ns mainGlobals mg) (hfa : mg "law" = some (.ref fa))
    {g0 g1 g2 g3 g4 g5 g6 g7 g8 g9 g10 g11 g12 g13 g14 : Addr} {od0 an0 od1 an1 od2 an2 od3 an3 od4 an4 od5 an5 od6 an6 od7 an7 od8 an8 od9 an9 od10 an10 od11 an11 od12 an12 od13 an13 od14 an14 : Option Addr} {sl0 sl1 sl2 sl3 sl4 sl5 sl6 sl7 sl8 sl9 sl10 sl11 sl12 sl13 sl14 : Array (Option Value)} {oc0 kV0 dc0 pm0 cd0 ct0 oc1 kV1 dc1 pm1 cd1 ct1 oc2 kV2 dc2 pm2 cd2 ct2 oc3 kV3 dc3 pm3 cd3 ct3 oc4 kV4 dc4 pm4 cd4 ct4 oc5 kV5 dc5 pm5 cd5 ct5 oc6 kV6 dc6 pm6 cd6 ct6 oc7 kV7 dc7 pm7 cd7 ct7 oc8 kV8 dc8 pm8 cd8 ct8 oc9 kV9 dc9 pm9 cd9 ct9 oc10 kV10 dc10 pm10 cd10 ct10 oc11 kV11 dc11 pm11 cd11 ct11 oc12 kV12 dc12 pm12 cd12 ct12 oc13 kV13 dc13 pm13 cd13 ct13 oc14 kV14 dc14 pm14 cd14 ct14 : Value}
    (a0 : PySem.W.nsIn K mainGlobals "divisor" = some (some (.ref g0))) (l0 : K.lookup g0 = some ⟨oc0, od0, .func (PySem.W.fnOf "divisor" "divisor" (defArgs s_divisor) (defBody s_divisor) (defScope s_divisor) .none kV0 dc0 pm0 an0 cd0 ct0), sl0⟩) (c0 : PySem.W.codeIn K cd0 "divisor" = true) (k0 : PySem.W.keepIn K (.ref g0) = true)
    (a1 : PySem.W.nsIn K mainGlobals "ratio" = some (some (.ref g1))) (l1 : K.lookup g1 = some ⟨oc1, od1, .func (PySem.W.fnOf "ratio" "ratio" (defArgs s_ratio) (defBody s_ratio) (defScope s_ratio) .none kV1 dc1 pm1 an1 cd1 ct1), sl1⟩) (c1 : PySem.W.codeIn K cd1 "ratio" = true) (k1 : PySem.W.keepIn K (.ref g1) = true)
    (a2 : PySem.W.nsIn K mainGlobals "plus" = some (some (.ref g2))) (l2 : K.lookup g2 = some ⟨oc2, od2, .func (PySem.W.fnOf "plus" "plus" (defArgs s_plus) (defBody s_plus) (defScope s_plus) .none kV2 dc2 pm2 an2 cd2 ct2), sl2⟩) (c2 : PySem.W.codeIn K cd2 "plus" = true) (k2 : PySem.W.keepIn K (.ref g2) = true)
    (a3 : PySem.W.nsIn K mainGlobals "minus" = some (some (.ref g3))) (l3 : K.lookup g3 = some ⟨oc3, od3, .func (PySem.W.fnOf "minus" "minus" (defArgs s_minus) (defBody s_minus) (defScope s_minus) .none kV3 dc3 pm3 an3 cd3 ct3), sl3⟩) (c3 : PySem.W.codeIn K cd3 "minus" = true) (k3 : PySem.W.keepIn K (.ref g3) = true)
    (a4 : PySem.W.nsIn K mainGlobals "times" = some (some (.ref g4))) (l4 : K.lookup g4 = some ⟨oc4, od4, .func (PySem.W.fnOf "times" "times" (defArgs s_times) (defBody s_times) (defScope s_times) .none kV4 dc4 pm4 an4 cd4 ct4), sl4⟩) (c4 : PySem.W.codeIn K cd4 "times" = true) (k4 : PySem.W.keepIn K (.ref g4) = true)
    (a5 : PySem.W.nsIn K mainGlobals "_law_cell_at" = some (some (.ref g5))) (l5 : K.lookup g5 = some ⟨oc5, od5, .func (PySem.W.fnOf "_law_cell_at" "_law_cell_at" (defArgs s__law_cell_at) (defBody s__law_cell_at) (defScope s__law_cell_at) .none kV5 dc5 pm5 an5 cd5 ct5), sl5⟩) (c5 : PySem.W.codeIn K cd5 "_law_cell_at" = true) (k5 : PySem.W.keepIn K (.ref g5) = true)
    (a6 : PySem.W.nsIn K mainGlobals "_law_whole" = some (some (.ref g6))) (l6 : K.lookup g6 = some ⟨oc6, od6, .func (PySem.W.fnOf "_law_whole" "_law_whole" (defArgs s__law_whole) (defBody s__law_whole) (defScope s__law_whole) .none kV6 dc6 pm6 an6 cd6 ct6), sl6⟩) (c6 : PySem.W.codeIn K cd6 "_law_whole" = true) (k6 : PySem.W.keepIn K (.ref g6) = true)
    (a7 : PySem.W.nsIn K mainGlobals "_law_divisor" = some (some (.ref g7))) (l7 : K.lookup g7 = some ⟨oc7, od7, .func (PySem.W.fnOf "_law_divisor" "_law_divisor" (defArgs s__law_divisor) (defBody s__law_divisor) (defScope s__law_divisor) .none kV7 dc7 pm7 an7 cd7 ct7), sl7⟩) (c7 : PySem.W.codeIn K cd7 "_law_divisor" = true) (k7 : PySem.W.keepIn K (.ref g7) = true)
    (a8 : PySem.W.nsIn K mainGlobals "_law_lowest" = some (some (.ref g8))) (l8 : K.lookup g8 = some ⟨oc8, od8, .func (PySem.W.fnOf "_law_lowest" "_law_lowest" (defArgs s__law_lowest) (defBody s__law_lowest) (defScope s__law_lowest) .none kV8 dc8 pm8 an8 cd8 ct8), sl8⟩) (c8 : PySem.W.codeIn K cd8 "_law_lowest" = true) (k8 : PySem.W.keepIn K (.ref g8) = true)
    (a9 : PySem.W.nsIn K mainGlobals "_law_is_fraction" = some (some (.ref g9))) (l9 : K.lookup g9 = some ⟨oc9, od9, .func (PySem.W.fnOf "_law_is_fraction" "_law_is_fraction" (defArgs s__law_is_fraction) (defBody s__law_is_fraction) (defScope s__law_is_fraction) .none kV9 dc9 pm9 an9 cd9 ct9), sl9⟩) (c9 : PySem.W.codeIn K cd9 "_law_is_fraction" = true) (k9 : PySem.W.keepIn K (.ref g9) = true)
    (a10 : PySem.W.nsIn K mainGlobals "_law_fraction_by" = some (some (.ref g10))) (l10 : K.lookup g10 = some ⟨oc10, od10, .func (PySem.W.fnOf "_law_fraction_by" "_law_fraction_by" (defArgs s__law_fraction_by) (defBody s__law_fraction_by) (defScope s__law_fraction_by) .none kV10 dc10 pm10 an10 cd10 ct10), sl10⟩) (c10 : PySem.W.codeIn K cd10 "_law_fraction_by" = true) (k10 : PySem.W.keepIn K (.ref g10) = true)
    (a11 : PySem.W.nsIn K mainGlobals "_law_great" = some (some (.ref g11))) (l11 : K.lookup g11 = some ⟨oc11, od11, .func (PySem.W.fnOf "_law_great" "_law_great" (defArgs s__law_great) (defBody s__law_great) (defScope s__law_great) .none kV11 dc11 pm11 an11 cd11 ct11), sl11⟩) (c11 : PySem.W.codeIn K cd11 "_law_great" = true) (k11 : PySem.W.keepIn K (.ref g11) = true)
    (a12 : PySem.W.nsIn K mainGlobals "_law_worth" = some (some (.ref g12))) (l12 : K.lookup g12 = some ⟨oc12, od12, .func (PySem.W.fnOf "_law_worth" "_law_worth" (defArgs s__law_worth) (defBody s__law_worth) (defScope s__law_worth) .none kV12 dc12 pm12 an12 cd12 ct12), sl12⟩) (c12 : PySem.W.codeIn K cd12 "_law_worth" = true) (k12 : PySem.W.keepIn K (.ref g12) = true)
    (a13 : PySem.W.nsIn K mainGlobals "_law_fits" = some (some (.ref g13))) (l13 : K.lookup g13 = some ⟨oc13, od13, .func (PySem.W.fnOf "_law_fits" "_law_fits" (defArgs s__law_fits) (defBody s__law_fits) (defScope s__law_fits) .none kV13 dc13 pm13 an13 cd13 ct13), sl13⟩) (c13 : PySem.W.codeIn K cd13 "_law_fits" = true) (k13 : PySem.W.keepIn K (.ref g13) = true)
    (a14 : PySem.W.nsIn K mainGlobals "law" = some (some (.ref g14))) (l14 : K.lookup g14 = some ⟨oc14, od14, .func (PySem.W.fnOf "law" "law" (defArgs s_law) (defBody s_law) (defScope s_law) .none kV14 dc14 pm14 an14 cd14 ct14), sl14⟩) (c14 : PySem.W.codeIn K cd14 "law" = true) (k14 : PySem.W.keepIn K (.ref g14) = true)
    (z_abs : PySem.W.nsIn K mainGlobals "abs" = some none)
    (z_bool : PySem.W.nsIn K mainGlobals "bool" = some none)
    (z_enumerate : PySem.W.nsIn K mainGlobals "enumerate" = some none)
    (z_int : PySem.W.nsIn K mainGlobals "int" = some none)
    (z_isinstance : PySem.W.nsIn K mainGlobals "isinstance" = some none)
    (z_len : PySem.W.nsIn K mainGlobals "len" = some none)
    (z_tuple : PySem.W.nsIn K mainGlobals "tuple" = some none)
    (ht : ∀ ns : List Int, ns.length ≤ 63 → f_law [.list (ns.map .int)] = .ok (.sh (.bool true))) :
    ∃ fd : FuncData, (∀ (s : Shared) (v : Value), BindsTo s fd ⟨[v], []⟩ [("_law_script", v)]) ∧ ∀ base : Heap, K.In base → base.Ns mainGlobals mg → FnOk l.prog w K mg base (L2.CX l.prog w) 5 fa fd ["_law_script"] (spTrue K) := by
  have e := hfa.symm.trans (PySem.W.mg_of X G a14)
  cases e
  have T : Blt mg := ⟨PySem.W.mg_none_of X G z_abs, PySem.W.mg_none_of X G z_bool, PySem.W.mg_none_of X G z_enumerate, PySem.W.mg_none_of X G z_int, PySem.W.mg_none_of X G z_isinstance, PySem.W.mg_none_of X G z_len, PySem.W.mg_none_of X G z_tuple⟩
  have F0 := fun_mk (st := s_divisor) l0 c0 k0
  have b0 := F0.binds (ps := ["one", "other"]) fun _ _ _ _ _ _ us hl => match us, hl with | [_, _], _ => rfl
  have F1 := fun_mk (st := s_ratio) l1 c1 k1
  have b1 := F1.binds (ps := ["top", "bottom"]) fun _ _ _ _ _ _ us hl => match us, hl with | [_, _], _ => rfl
  have F2 := fun_mk (st := s_plus) l2 c2 k2
  have b2 := F2.binds (ps := ["one", "other"]) fun _ _ _ _ _ _ us hl => match us, hl with | [_, _], _ => rfl
  have F3 := fun_mk (st := s_minus) l3 c3 k3
  have b3 := F3.binds (ps := ["one", "other"]) fun _ _ _ _ _ _ us hl => match us, hl with | [_, _], _ => rfl
  have F4 := fun_mk (st := s_times) l4 c4 k4
  have b4 := F4.binds (ps := ["one", "other"]) fun _ _ _ _ _ _ us hl => match us, hl with | [_, _], _ => rfl
  have F5 := fun_mk (st := s__law_cell_at) l5 c5 k5
  have b5 := F5.binds (ps := ["_law_script", "_law_k"]) fun _ _ _ _ _ _ us hl => match us, hl with | [_, _], _ => rfl
  have F6 := fun_mk (st := s__law_whole) l6 c6 k6
  have b6 := F6.binds (ps := ["_law_found"]) fun _ _ _ _ _ _ us hl => match us, hl with | [_], _ => rfl
  have F7 := fun_mk (st := s__law_divisor) l7 c7 k7
  have b7 := F7.binds (ps := ["_law_one", "_law_other"]) fun _ _ _ _ _ _ us hl => match us, hl with | [_, _], _ => rfl
  have F8 := fun_mk (st := s__law_lowest) l8 c8 k8
  have b8 := F8.binds (ps := ["_law_top", "_law_bottom"]) fun _ _ _ _ _ _ us hl => match us, hl with | [_, _], _ => rfl
  have F9 := fun_mk (st := s__law_is_fraction) l9 c9 k9
  have b9 := F9.binds (ps := ["_law_found"]) fun _ _ _ _ _ _ us hl => match us, hl with | [_], _ => rfl
  have F10 := fun_mk (st := s__law_fraction_by) l10 c10 k10
  have b10 := F10.binds (ps := ["_law_cell", "_law_k"]) fun _ _ _ _ _ _ us hl => match us, hl with | [_, _], _ => rfl
  have F11 := fun_mk (st := s__law_great) l11 c11 k11
  have b11 := F11.binds (ps := ["_law_one", "_law_other"]) fun _ _ _ _ _ _ us hl => match us, hl with | [_, _], _ => rfl
  have F12 := fun_mk (st := s__law_worth) l12 c12 k12
  have b12 := F12.binds (ps := ["_law_found", "_law_top", "_law_bottom"]) fun _ _ _ _ _ _ us hl => match us, hl with | [_, _, _], _ => rfl
  have F13 := fun_mk (st := s__law_fits) l13 c13 k13
  have b13 := F13.binds (ps := ["_law_one", "_law_other"]) fun _ _ _ _ _ _ us hl => match us, hl with | [_, _], _ => rfl
  have F14 := fun_mk (st := s_law) l14 c14 k14
  have b14 := F14.binds (ps := ["_law_script"]) fun _ _ _ _ _ _ us hl => match us, hl with | [_], _ => rfl
  refine ⟨PySem.W.fnOf "law" "law" (defArgs s_law) (defBody s_law) (defScope s_law) .none kV14 dc14 pm14 an14 cd14 ct14, fun s v => .of_eq rfl, fun base _ _ => ?_⟩
  have C_divisor : Callee l.prog w K mg base (fun _ => 0) "divisor" 1 f_divisor 2 := callee_of F0 (ok_divisor T  F0) (PySem.W.mg_of X G a0) b0
  have C__law_cell_at : Callee l.prog w K mg base (fun _ => 0) "_law_cell_at" 1 f__law_cell_at 2 := callee_of F5 (ok__law_cell_at T  F5) (PySem.W.mg_of X G a5) b5
  have C__law_whole : Callee l.prog w K mg base (fun _ => 0) "_law_whole" 1 f__law_whole 1 := callee_of F6 (ok__law_whole T  F6) (PySem.W.mg_of X G a6) b6
  have C__law_divisor : Callee l.prog w K mg base (fun _ => 0) "_law_divisor" 1 f__law_divisor 2 := callee_of F7 (ok__law_divisor T  F7) (PySem.W.mg_of X G a7) b7
  have C_ratio : Callee l.prog w K mg base (fun _ => 0) "ratio" 2 f_ratio 2 := callee_of F1 (ok_ratio T C_divisor F1) (PySem.W.mg_of X G a1) b1
  have C__law_lowest : Callee l.prog w K mg base (fun _ => 0) "_law_lowest" 2 f__law_lowest 2 := callee_of F8 (ok__law_lowest T C__law_divisor F8) (PySem.W.mg_of X G a8) b8
  have C__law_is_fraction : Callee l.prog w K mg base (fun _ => 0) "_law_is_fraction" 2 f__law_is_fraction 1 := callee_of F9 (ok__law_is_fraction T C__law_whole C__law_divisor F9) (PySem.W.mg_of X G a9) b9
  have C_plus : Callee l.prog w K mg base (fun _ => 0) "plus" 3 f_plus 2 := callee_of F2 (ok_plus T C_ratio F2) (PySem.W.mg_of X G a2) b2
  have C_minus : Callee l.prog w K mg base (fun _ => 0) "minus" 3 f_minus 2 := callee_of F3 (ok_minus T C_ratio F3) (PySem.W.mg_of X G a3) b3
  have C_times : Callee l.prog w K mg base (fun _ => 0) "times" 3 f_times 2 := callee_of F4 (ok_times T C_ratio F4) (PySem.W.mg_of X G a4) b4
  have C__law_fraction_by : Callee l.prog w K mg base (fun _ => 0) "_law_fraction_by" 3 f__law_fraction_by 2 := callee_of F10 (ok__law_fraction_by T C__law_lowest F10) (PySem.W.mg_of X G a10) b10
  have C__law_great : Callee l.prog w K mg base (fun _ => 0) "_law_great" 3 f__law_great 2 := callee_of F11 (ok__law_great T C__law_lowest F11) (PySem.W.mg_of X G a11) b11
  have C__law_worth : Callee l.prog w K mg base (fun _ => 0) "_law_worth" 3 f__law_worth 3 := callee_of F12 (ok__law_worth T C__law_is_fraction F12) (PySem.W.mg_of X G a12) b12
  have C__law_fits : Callee l.prog w K mg base (fun _ => 0) "_law_fits" 4 f__law_fits 2 := callee_of F13 (ok__law_fits T C_plus C_minus C_times C__law_worth F13) (PySem.W.mg_of X G a13) b13
  exact law_of (ca := fun _ => 0) (ok_law T C_plus C__law_cell_at C__law_fraction_by C__law_great C__law_worth C__law_fits F14) ht
theorem walk {l : PySem.W.OpenLaw} {q : Program} {loose : List Str} {XP : (Str → Option Value) → Heap → Prop} {YP : World → Heap → Prop} {d : DefRec} {K : Params → PySem.W.Frag} (hn : l.most = some 63) (hdf : d.params.defaults = [])
    (hY : ∀ (w : World) (h : Heap), YP w h → (K w.params).In h)
    (F : ∀ (w : World) (mg : Str → Option Value) (fa : Addr) (h : Heap), (K w.params).In h → h.Ns mainGlobals mg → mg d.name = some (.ref fa) →
      ∃ fd : FuncData, (∀ (s : Shared) (u : Value), BindsTo s fd ⟨[u], []⟩ [("_law_script", u)]) ∧ ∀ base : Heap, (K w.params).In base → base.Ns mainGlobals mg → FnOk l.prog w (K w.params) mg base (L2.CX l.prog w) 5 fa fd ["_law_script"] (spTrue (K w.params))) :
    PySem.W.WalkO q loose XP YP l.row.toRowW d [] (fun f vs => PySem.call f vs) :=
  L2.walk_of (n := 63) (k := 5) (x := "_law_script") (CX := fun w => L2.CX l.prog w) (sp := fun w => spTrue (K w.params)) hn (by decide) hdf ⟨rfl, by decide, by decide⟩ hY F (fun _ _ a ns hl _ hS => ⟨a, ns, rfl, hS, hl, fun _ => rfl⟩) fun _ _ _ _ _ z => by obtain ⟨_, _, _, _, _, _, _, _, _, _, _, _, z⟩ := z; exact z
end PF

namespace PF
open PySem L2
theorem ev_divisor (a b : Int) : f_divisor [.int a, .int b] = .ok (.sh (.int (Int.gcd a b))) := by
  unfold f_divisor
  rw [fnOf2]
  have h := gcd_loop (C := p2_divisor) (B := p1_divisor) (fun x y => by simp [p2_divisor]) (fun x y hy => by simp [p1_divisor, fz1_eq, modD_ok (show y ≠ 0 by omega)]) b.natAbs a.natAbs b.natAbs (by omega) (by omega) (by omega)
  rw [gcd_abs] at h
  simp [b_divisor, abs_if, h]
theorem ev_ldivisor (a b : Int) : f__law_divisor [.int a, .int b] = .ok (.sh (.int (Int.gcd a b))) := by
  unfold f__law_divisor
  rw [fnOf2]
  have h := gcd_loop (C := p2__law_divisor) (B := p1__law_divisor) (fun x y => by simp [p2__law_divisor]) (fun x y hy => by simp [p1__law_divisor, fz1_eq, modD_ok (show y ≠ 0 by omega)]) b.natAbs a.natAbs b.natAbs (by omega) (by omega) (by omega)
  rw [gcd_abs] at h
  simp [b__law_divisor, abs_if, h]
theorem ev_ratio (t b : Int) (hb : b ≠ 0) (hs : b.natAbs < 2 ^ 9000) : f_ratio [.int t, .int b] = .ok (.sh (frD t b)) := by
  unfold f_ratio
  rw [fnOf2]
  have h0 : (b == 0) = false := beq_eq_false_iff_ne.mpr hb
  have d1 : divOk t (byOf t b) := divOk_of (byOf_ne hb) (Nat.lt_of_le_of_lt (byOf_le hb) hs) (Nat.le_refl _)
  have d2 : divOk b (byOf t b) := divOk_of (byOf_ne hb) (Nat.lt_of_le_of_lt (byOf_le hb) hs) (Nat.le_refl _)
  by_cases hn : b < 0
  · have e : (0 : Int) - (Int.gcd t b : Int) = byOf t b := by unfold byOf; rw [if_pos hn]
    simp [b_ratio, h0, ev_divisor, hn, fz1_eq]
    rw [show -(Int.gcd t b : Int) = byOf t b by rw [← e]; omega]
    simp [divD_ok d1, divD_ok d2]
    rfl
  · have e : (Int.gcd t b : Int) = byOf t b := by unfold byOf; rw [if_neg hn]
    simp [b_ratio, h0, ev_divisor, hn, fz1_eq]
    rw [e]
    simp [divD_ok d1, divD_ok d2]
    rfl
theorem ev_plus (a b c d : Int) (h1 : mulOk a d) (h2 : mulOk c b) (h3 : mulOk b d) : f_plus [fracD a b, fracD c d] = f_ratio [.int (a * d + c * b), .int (b * d)] := by
  simp [f_plus, fnOf2, b_plus, fracD, mulD_ok, h1, h2, h3]
theorem ev_minus (a b c d : Int) (h1 : mulOk a d) (h2 : mulOk c b) (h3 : mulOk b d) : f_minus [fracD a b, fracD c d] = f_ratio [.int (a * d - c * b), .int (b * d)] := by
  simp [f_minus, fnOf2, b_minus, fracD, mulD_ok, h1, h2, h3]
theorem ev_times (a b c d : Int) (h1 : mulOk a c) (h3 : mulOk b d) : f_times [fracD a b, fracD c d] = f_ratio [.int (a * c), .int (b * d)] := by
  simp [f_times, fnOf2, b_times, fracD, mulD_ok, h1, h3]
theorem ev_lcell (ns : List Int) (k : Nat) : f__law_cell_at [.list (ns.map .int), .int k] = .ok (.sh (.int (ns.getD k 0))) := by
  have hl : (ns.map PyData.int).length = ns.length := List.length_map _
  by_cases h : k < ns.length
  · have hg : getP (ns.map PyData.int) (k : Int) = .ok (.int ns[k]) := getP_nat (by rw [List.getElem?_map, List.getElem?_eq_getElem h]; rfl)
    simp [f__law_cell_at, fnOf2, b__law_cell_at, hl, h, hg]
  · have e : ns.getD k 0 = 0 := by rw [List.getD_eq_getElem?_getD, List.getElem?_eq_none (by omega)]; rfl
    simp [f__law_cell_at, fnOf2, b__law_cell_at, hl, h, e]
theorem ev_lwhole (a : Int) : f__law_whole [.int a] = .ok (.sh (.bool true)) := by
  simp [f__law_whole, fnOf1, b__law_whole]
theorem ev_llowest (t b : Int) (hb : b ≠ 0) (hs : b.natAbs < 2 ^ 9000) : f__law_lowest [.int t, .int b] = .ok (.sh (frD t b)) := by
  unfold f__law_lowest
  rw [fnOf2]
  have d1 : divOk t (byOf t b) := divOk_of (byOf_ne hb) (Nat.lt_of_le_of_lt (byOf_le hb) hs) (Nat.le_refl _)
  have d2 : divOk b (byOf t b) := divOk_of (byOf_ne hb) (Nat.lt_of_le_of_lt (byOf_le hb) hs) (Nat.le_refl _)
  by_cases hn : b < 0
  · have e : (0 : Int) - (Int.gcd t b : Int) = byOf t b := by unfold byOf; rw [if_pos hn]
    simp [b__law_lowest, ev_ldivisor, hn, fz1_eq]
    rw [show -(Int.gcd t b : Int) = byOf t b by rw [← e]; omega]
    simp [divD_ok d1, divD_ok d2]
    rfl
  · have e : (Int.gcd t b : Int) = byOf t b := by unfold byOf; rw [if_neg hn]
    simp [b__law_lowest, ev_ldivisor, hn, fz1_eq]
    rw [e]
    simp [divD_ok d1, divD_ok d2]
    rfl
theorem ev_lisfrac (p q : Int) (hq : 0 < q) (hg : Int.gcd p q = 1) : f__law_is_fraction [fracD p q] = .ok (.sh (.bool true)) := by
  simp [f__law_is_fraction, fnOf1, b__law_is_fraction, fracD, ev_lwhole, ev_ldivisor, hq, hg]
theorem ev_lworth (p q t b : Int) (hq : 0 < q) (hg : Int.gcd p q = 1) (h : p * b = t * q) (h1 : mulOk p b) (h2 : mulOk t q) : f__law_worth [fracD p q, .int t, .int b] = .ok (.sh (.bool true)) := by
  have e := ev_lisfrac p q hq hg
  simp [f__law_worth, fnOf3, b__law_worth, e]
  simp [fracD, mulD_ok h1, mulD_ok h2, h]
theorem fmod_bd (a m : Int) (h : 0 < m) : 0 ≤ a.fmod m ∧ a.fmod m < m := ⟨Int.fmod_nonneg_of_pos a h, Int.fmod_lt_of_pos a h⟩
theorem three_of (m : Int) (h : 0 ≤ m ∧ m < 3) : m = 0 ∨ m = 1 ∨ m = 2 := by omega
theorem ev_lfracby (c : Int) (k : Nat) (hk : k < 63) : ∃ t b : Int, 1 ≤ b ∧ b ≤ 6 ∧ t.natAbs ≤ 1000000000 ∧ f__law_fraction_by [.int c, .int k] = .ok (.sh (frD t b)) := by
  obtain ⟨a0, a1⟩ := fmod_bd c 1000000000000000000 (by decide)
  have e1 : mulOk (48271 : Int) ((k : Int) + 1) := mulOk_left (by decide)
  generalize hn : c.fmod 1000000000000000000 + 48271 * ((k : Int) + 1) = n1
  have b1 : n1.natAbs < 2 ^ 64 := by rw [show (2 : Nat) ^ 64 = 18446744073709551616 from rfl]; omega
  obtain ⟨c0, c1⟩ := fmod_bd (n1 * n1) 2147483629 (by decide)
  have e2 : mulOk (69621 : Int) (k : Int) := mulOk_left (by decide)
  generalize hn2 : (n1 * n1).fmod 2147483629 + 69621 * (k : Int) = n2
  have b2 : n2.natAbs < 2 ^ 64 := by rw [show (2 : Nat) ^ 64 = 18446744073709551616 from rfl]; omega
  obtain ⟨d0, d1⟩ := fmod_bd (n2 * n2) 2147483587 (by decide)
  generalize hn3 : (n2 * n2).fmod 2147483587 = N at d0 d1
  obtain ⟨f0, f1⟩ := fmod_bd N 6 (by decide)
  obtain ⟨g0, g1⟩ := fmod_bd (N.fdiv 6) 13 (by decide)
  obtain ⟨h0, h1⟩ := fmod_bd (N.fdiv 18) 200001 (by decide)
  obtain ⟨i0, i1⟩ := fmod_bd c 2000000000 (by decide)
  have hb : (1 + N.fmod 6).natAbs < 2 ^ 9000 := Nat.lt_of_lt_of_le (show _ < 2 ^ 3 by omega) (Nat.pow_le_pow_right (by decide) (by decide))
  rcases three_of _ (fmod_bd (N.fdiv 6) 3 (by decide)) with h | h | h
  · refine ⟨(N.fdiv 6).fmod 13 - 6, 1 + N.fmod 6, by omega, by omega, by omega, ?_⟩
    simp [f__law_fraction_by, fnOf2, b__law_fraction_by, modD_ok, mulD_ok, e1, hn, mulOk_left b1, e2, hn2, mulOk_left b2, hn3, divD_ok, divOk_lit, mulOk_left (a := 2), fz1_eq, h, ev_llowest _ _ (show 1 + N.fmod 6 ≠ 0 by omega) hb]
  · refine ⟨(N.fdiv 18).fmod 200001 - 100000, 1 + N.fmod 6, by omega, by omega, by omega, ?_⟩
    simp [f__law_fraction_by, fnOf2, b__law_fraction_by, modD_ok, mulD_ok, e1, hn, mulOk_left b1, e2, hn2, mulOk_left b2, hn3, divD_ok, divOk_lit, mulOk_left (a := 2), fz1_eq, h, ev_llowest _ _ (show 1 + N.fmod 6 ≠ 0 by omega) hb]
  · refine ⟨c.fmod 2000000000 - 1000000000, 1 + N.fmod 6, by omega, by omega, by omega, ?_⟩
    simp [f__law_fraction_by, fnOf2, b__law_fraction_by, modD_ok, mulD_ok, e1, hn, mulOk_left b1, e2, hn2, mulOk_left b2, hn3, divD_ok, divOk_lit, mulOk_left (a := 2), fz1_eq, h, ev_llowest _ _ (show 1 + N.fmod 6 ≠ 0 by omega) hb]
theorem ev_lgreat (x y : Int) : ∃ t b : Int, 1 ≤ b ∧ b.natAbs < 2 ^ 200 ∧ t.natAbs < 2 ^ 200 ∧ f__law_great [.int x, .int y] = .ok (.sh (frD t b)) := by
  obtain ⟨a0, a1⟩ := fmod_bd x 1999999999999999999999999999999999999999999999999999999999999 (by decide)
  obtain ⟨b0, b1⟩ := fmod_bd y 999999999999999999999999999999999999999999999999999999999999 (by decide)
  have hp : (2 : Nat) ^ 200 = 1606938044258990275541962092341162602522202993782792835301376 := by rfl
  refine ⟨x.fmod 1999999999999999999999999999999999999999999999999999999999999 - 999999999999999999999999999999999999999999999999999999999999, 1 + y.fmod 999999999999999999999999999999999999999999999999999999999999, by omega, by omega, by omega, ?_⟩
  have hb : (1 + y.fmod 999999999999999999999999999999999999999999999999999999999999).natAbs < 2 ^ 9000 := Nat.lt_of_lt_of_le (show _ < 2 ^ 200 by omega) (Nat.pow_le_pow_right (by decide) (by decide))
  simp [f__law_great, fnOf2, b__law_great, modD_ok, mulD_ok, mulOk_left (a := 2), fz1_eq, ev_llowest _ _ (show 1 + y.fmod 999999999999999999999999999999999999999999999999999999999999 ≠ 0 by omega) hb]
theorem ev_lfits (a b c d : Int) (hb : 0 < b) (hd : 0 < d) (ba : a.natAbs < 2 ^ 200) (bb : b.natAbs < 2 ^ 200) (bc : c.natAbs < 2 ^ 200) (bd : d.natAbs < 2 ^ 200) : f__law_fits [fracD a b, fracD c d] = .ok (.sh (.bool true)) := by
  have ok : ∀ x y : Int, x.natAbs < 2 ^ 1000 → y.natAbs < 2 ^ 1000 → mulOk x y := fun x y hx hy => mulOk_of hx hy (by decide) (by decide) (by decide)
  have ba' := bd_mono (n := 1000) ba (by decide)
  have bb' := bd_mono (n := 1000) bb (by decide)
  have bc' := bd_mono (n := 1000) bc (by decide)
  have bd' := bd_mono (n := 1000) bd (by decide)
  have had := bd_mul ba bd
  have hcb := bd_mul bc bb
  have hbd := bd_mul bb bd
  have hac := bd_mul ba bc
  have hs := bd_add had hcb
  have hm := bd_sub had hcb
  have hne : b * d ≠ 0 := Int.mul_ne_zero (by omega) (by omega)
  have h9 : (b * d).natAbs < 2 ^ 9000 := bd_mono hbd (by decide)
  have worth : ∀ t : Int, t.natAbs < 2 ^ 401 → f__law_worth [frD t (b * d), .int t, .int (b * d)] = .ok (.sh (.bool true)) := fun t ht =>
    ev_lworth _ _ _ _ (frB_pos hne) (fr_gcd hne) fr_cross (ok _ _ (bd_mono (bd_le (frT_le hne) ht) (by decide)) (bd_mono hbd (by decide))) (ok _ _ (bd_mono ht (by decide)) (bd_mono (bd_le (frB_le hne) hbd) (by decide)))
  have e1 := ev_plus a b c d (ok _ _ ba' bd') (ok _ _ bc' bb') (ok _ _ bb' bd')
  have e2 := ev_minus a b c d (ok _ _ ba' bd') (ok _ _ bc' bb') (ok _ _ bb' bd')
  have e3 := ev_times a b c d (ok _ _ ba' bc') (ok _ _ bb' bd')
  rw [ev_ratio _ _ hne h9] at e1 e2 e3
  unfold fracD at e1 e2 e3
  simp [f__law_fits, fnOf2, b__law_fits, fracD, e1, e2, e3, mulD_ok, ok _ _ ba' bd', ok _ _ bc' bb', ok _ _ bb' bd', ok _ _ ba' bc', worth _ hs, worth _ hm, worth _ (bd_mono hac (by decide))]
theorem dvd_sixty (q p tops : Int) (hq : 0 < q) (hg : Int.gcd p q = 1) (h : p * 60 = tops * q) : q ≤ 60 := by
  have h1 : q ∣ p * 60 := by rw [h]; exact Int.dvd_mul_left tops q
  have h2 : q.natAbs ∣ p.natAbs * 60 := by
    have := Int.natAbs_dvd_natAbs.mpr h1
    rwa [Int.natAbs_mul] at this
  have h3 : q.natAbs ∣ 60 := Nat.Coprime.dvd_of_dvd_mul_left (show Nat.Coprime q.natAbs p.natAbs by rw [Nat.Coprime, Nat.gcd_comm]; exact hg) h2
  have := Nat.le_of_dvd (by decide) h3
  omega
theorem k02_step (q p tops t b P Q : Int) (hq : 0 < q) (hb : 1 ≤ b ∧ b ≤ 6) (h : p * 60 = tops * q) (hQ : 0 < Q) (a bb : Int) (hbb : 0 < bb) (hab : a * b = t * bb) (hdv : bb ≤ 6) (hP : P * (q * bb) = (p * bb + a * q) * Q) :
    P * 60 = (tops + a * ((60 : Int).fdiv bb)) * Q := by
  have hm : bb * ((60 : Int).fdiv bb) = 60 := by
    have : bb = 1 ∨ bb = 2 ∨ bb = 3 ∨ bb = 4 ∨ bb = 5 ∨ bb = 6 := by omega
    rcases this with z | z | z | z | z | z <;> rw [z] <;> decide
  generalize (60 : Int).fdiv bb = m at hm
  have : (q * bb) * (P * 60) = (q * bb) * ((tops + a * m) * Q) := by grind
  exact Int.eq_of_mul_eq_mul_left (Int.mul_ne_zero (by omega) (by omega)) this
theorem two_of (m : Int) (h : 0 ≤ m ∧ m < 2) : m = 0 ∨ m = 1 := by omega
theorem k02_body (S : Sl) (p q tops : Int) (k : Nat) (c : Int) (x5 x6 x7 : Sl) (hk : k < 63) (hq : 0 < q) (hg : Int.gcd p q = 1) (h60 : p * 60 = tops * q) (ht : tops.natAbs ≤ k * 60000000000) :
    ∃ p' q' tops' : Int, ∃ y5 y6 : Sl, 0 < q' ∧ Int.gcd p' q' = 1 ∧ p' * 60 = tops' * q' ∧ tops'.natAbs ≤ (k + 1) * 60000000000 ∧
      p1_law [S, .sh (fracD p q), .sh (.int tops), .sh (.int k), .sh (.int c), x5, x6, x7] = .ok (.nx [S, .sh (fracD p' q'), .sh (.int tops'), .sh (.int k), .sh (.int c), y5, y6, x7]) := by
  obtain ⟨t, b, hb1, hb6, ht1, e1⟩ := ev_lfracby c k hk
  have hbne : b ≠ 0 := by omega
  have hbb := frB_pos (t := t) hbne
  have hcr : frT t b * b = t * frB t b := fr_cross
  have hbl := frB_le (t := t) hbne
  have htl := frT_le (t := t) hbne
  generalize hA : frT t b = a at *
  generalize hB : frB t b = bb at *
  have e1 : f__law_fraction_by [.int c, .int k] = .ok (.sh (fracD a bb)) := by rw [e1]; unfold frD; rw [hA, hB]
  have hq60 := dvd_sixty q p tops hq hg h60
  have hpt : p.natAbs ≤ tops.natAbs := by
    have h1 : p.natAbs * 60 = tops.natAbs * q.natAbs := by rw [← Int.natAbs_mul, ← h60, Int.natAbs_mul]; rfl
    have h2 : tops.natAbs * q.natAbs ≤ tops.natAbs * 60 := Nat.mul_le_mul_left _ (by omega)
    omega
  have big : ∀ x : Int, x.natAbs < 1000000000000000 → x.natAbs < 2 ^ 64 := fun x h => by rw [show (2 : Nat) ^ 64 = 18446744073709551616 from rfl]; omega
  have big2 : ∀ x : Int, x.natAbs < 1000000000000000 → x.natAbs < 2 ^ 200 := fun x h => bd_mono (big x h) (by decide)
  have sp : p.natAbs < 1000000000000000 := by omega
  have sq : q.natAbs < 1000000000000000 := by omega
  have sa : a.natAbs < 1000000000000000 := by omega
  have sb : bb.natAbs < 1000000000000000 := by omega
  have f1 := ev_lfits p q a bb hq hbb (big2 _ sp) (big2 _ sq) (big2 _ sa) (big2 _ sb)
  have f2 := ev_lfits a bb p q hbb hq (big2 _ sa) (big2 _ sb) (big2 _ sp) (big2 _ sq)
  have hne : q * bb ≠ 0 := Int.mul_ne_zero (by omega) (by omega)
  have e2 := ev_plus p q a bb (mulOk_left (big _ sp)) (mulOk_left (big _ sa)) (mulOk_left (big _ sq))
  rw [ev_ratio _ _ hne (bd_mono (bd_mul (big _ sq) (big _ sb)) (by decide))] at e2
  have hP := fr_cross (t := p * bb + a * q) (b := q * bb)
  refine ⟨frT (p * bb + a * q) (q * bb), frB (p * bb + a * q) (q * bb), tops + a * ((60 : Int).fdiv bb), .sh (fracD a bb), ?_⟩
  have dv : divOk 60 bb := divOk_lit (by omega) (big _ sb)
  have mv : mulOk a ((60 : Int).fdiv bb) := mulOk_left (big _ sa)
  have last : 0 < frB (p * bb + a * q) (q * bb) ∧ Int.gcd (frT (p * bb + a * q) (q * bb)) (frB (p * bb + a * q) (q * bb)) = 1 ∧ frT (p * bb + a * q) (q * bb) * 60 = (tops + a * ((60 : Int).fdiv bb)) * frB (p * bb + a * q) (q * bb) ∧
      (tops + a * ((60 : Int).fdiv bb)).natAbs ≤ (k + 1) * 60000000000 := by
    refine ⟨frB_pos hne, fr_gcd hne, k02_step q p tops t b _ _ hq ⟨hb1, hb6⟩ h60 (frB_pos hne) a bb hbb hcr (by omega) hP, ?_⟩
    have h1 : ((60 : Int).fdiv bb).natAbs ≤ 60 := by
      rw [Int.fdiv_eq_ediv_of_nonneg _ (by omega)]
      have := Int.ediv_le_self (a := 60) bb (by decide)
      have := Int.ediv_nonneg (a := 60) (b := bb) (by decide) (by omega)
      omega
    have h2 : (a * ((60 : Int).fdiv bb)).natAbs ≤ 1000000000 * 60 := by
      rw [Int.natAbs_mul]
      exact Nat.mul_le_mul (by omega) h1
    omega
  rcases two_of _ (fmod_bd (c + k) 2 (by decide)) with h | h
  · refine ⟨.sh (.tuple [fracD p q, fracD a bb]), last.1, last.2.1, last.2.2.1, last.2.2.2, ?_⟩
    simp [p1_law, e1, modD_ok, h, f1, ixD, fracD] 
    simp [fracD] at e2 f1
    simp [f1, divD_ok dv, mulD_ok mv, e2, frD, fracD]
  · refine ⟨.sh (.tuple [fracD a bb, fracD p q]), last.1, last.2.1, last.2.2.1, last.2.2.2, ?_⟩
    simp [p1_law, e1, modD_ok, h, f2, ixD, fracD] 
    simp [fracD] at e2 f2
    simp [f2, divD_ok dv, mulD_ok mv, e2, frD, fracD]
theorem law_true (ns : List Int) (h : ns.length ≤ 63) : f_law [.list (ns.map .int)] = .ok (.sh (.bool true)) := by
  have hcut : cutP (ns.map PyData.int) none (some 63) = ns.map .int := by
    unfold cutP
    rw [HT.sIx_none, show (63 : Int) = ((63 : Nat) : Int) from rfl, HT.sIx_nat, List.drop_zero, List.length_map, Nat.sub_zero]
    exact List.take_of_length_le (by rw [List.length_map]; omega)
  obtain ⟨t1, b1, p1, q1, r1, g1⟩ := ev_lgreat (ns.getD 0 0) (ns.getD 1 0)
  obtain ⟨t2, b2, p2, q2, r2, g2⟩ := ev_lgreat (ns.getD 2 0) (ns.getD 3 0)
  have c0 := ev_lcell ns 0
  have c1 := ev_lcell ns 1
  have c2 := ev_lcell ns 2
  have c3 := ev_lcell ns 3
  have f1 := ev_lfits (frT t1 b1) (frB t1 b1) (frT t2 b2) (frB t2 b2) (frB_pos (by omega)) (frB_pos (by omega)) (bd_le (frT_le (by omega)) r1) (bd_le (frB_le (by omega)) q1) (bd_le (frT_le (by omega)) r2) (bd_le (frB_le (by omega)) q2)
  have f2 := ev_lfits (frT t2 b2) (frB t2 b2) (frT t1 b1) (frB t1 b1) (frB_pos (by omega)) (frB_pos (by omega)) (bd_le (frT_le (by omega)) r2) (bd_le (frB_le (by omega)) q2) (bd_le (frT_le (by omega)) r1) (bd_le (frB_le (by omega)) q1)
  -- the loop
  obtain ⟨ρ', e1, p, q, tops, y3, y4, y5, y6, y7, rfl, hq, hg, h60, ht⟩ := for_inv (T := tgT 2 (tgCons (tgN 3) (tgCons (tgN 4) tgNil))) (B := p1_law) (ds := enumL (ns.map PyData.int))
    (ρ := [.sh (.list (ns.map .int)), .sh (fracD 0 1), .sh (.int 0), .no, .no, .no, .no, .no])
    (fun k ρ => ∃ (p q tops : Int) (y3 y4 y5 y6 y7 : Sl), ρ = [.sh (.list (ns.map .int)), .sh (fracD p q), .sh (.int tops), y3, y4, y5, y6, y7] ∧ 0 < q ∧ Int.gcd p q = 1 ∧ p * 60 = tops * q ∧ tops.natAbs ≤ k * 60000000000)
    ⟨0, 1, 0, .no, .no, .no, .no, .no, rfl, by decide, by decide, by decide, by decide⟩
    (fun k d ρ hd hi => by
      obtain ⟨p, q, tops, y3, y4, y5, y6, y7, rfl, hq, hg, h60, ht⟩ := hi
      obtain ⟨a, ha, rfl⟩ := enumL_get hd
      rw [List.getElem?_map] at ha
      cases hc : ns[k]? with
      | none => rw [hc] at ha; cases ha
      | some c =>
        rw [hc] at ha
        cases ha
        have hk : k < 63 := by have := (List.getElem?_eq_some_iff.mp hc).1; omega
        obtain ⟨p', q', tops', y5', y6', a1, a2, a3, a4, e⟩ := k02_body (.sh (.list (ns.map .int))) p q tops k c y5 y6 y7 hk hq hg h60 ht
        exact ⟨_, _, by simp [pairD], e, p', q', tops', _, _, y5', y6', y7, rfl, a1, a2, a3, a4⟩)
  have hlen : (enumL (ns.map PyData.int)).length = ns.length := by unfold enumL; rw [List.length_map, List.length_zipIdx, List.length_map]
  rw [hlen] at ht
  have hq60 := dvd_sixty q p tops hq hg h60
  have big : ∀ x : Int, x.natAbs < 1000000000000000 → x.natAbs < 2 ^ 64 := fun x h => by rw [show (2 : Nat) ^ 64 = 18446744073709551616 from rfl]; omega
  have hw := ev_lworth p q tops 60 hq hg h60 (mulOk_right (by decide)) (mulOk_left (big _ (by omega)))
  simp at c0 c1 c2 c3 g1 g2
  unfold fracD at e1 f1 f2 hw
  simp [f_law, fnOf1, b_law, enumD, hcut, fz1_eq]
  simp [e1, hw, c0, c1, c2, c3, g1, g2, fz1_eq, frD, fracD, f1, f2]
end PF

open PySem PySem.W PyProof.Rows
set_option maxRecDepth 100000 in
set_option maxHeartbeats 0 in
theorem PySem.Challenge.cw_wallspace_k02_sums_and_products_holds : PySem.Challenge.rw_wallspace_k02_sums_and_products.Holds := by
  w_on; o_law; k_head; (case hw => w_witness2)
  k_fill
  refine PF.walk (l := PySem.Challenge.rw_wallspace_k02_sums_and_products) rfl rfl (fun w h Y => PySem.W.kIn_of Y) ?F
  case F =>
    intro w mg fa h KX G hmg
    refine' PF.all_mk KX G hmg ?a0 ?l0 ?c0 ?k0 ?a1 ?l1 ?c1 ?k1 ?a2 ?l2 ?c2 ?k2 ?a3 ?l3 ?c3 ?k3 ?a4 ?l4 ?c4 ?k4 ?a5 ?l5 ?c5 ?k5 ?a6 ?l6 ?c6 ?k6 ?a7 ?l7 ?c7 ?k7 ?a8 ?l8 ?c8 ?k8 ?a9 ?l9 ?c9 ?k9 ?a10 ?l10 ?c10 ?k10 ?a11 ?l11 ?c11 ?k11 ?a12 ?l12 ?c12 ?k12 ?a13 ?l13 ?c13 ?k13 ?a14 ?l14 ?c14 ?k14 ?z_abs ?z_bool ?z_enumerate ?z_int ?z_isinstance ?z_len ?z_tuple PF.law_true
    (case a0 => k_is); (case l0 => k_is); (case c0 => k_is); (case k0 => k_is)
    (case a1 => k_is); (case l1 => k_is); (case c1 => k_is); (case k1 => k_is)
    (case a2 => k_is); (case l2 => k_is); (case c2 => k_is); (case k2 => k_is)
    (case a3 => k_is); (case l3 => k_is); (case c3 => k_is); (case k3 => k_is)
    (case a4 => k_is); (case l4 => k_is); (case c4 => k_is); (case k4 => k_is)
    (case a5 => k_is); (case l5 => k_is); (case c5 => k_is); (case k5 => k_is)
    (case a6 => k_is); (case l6 => k_is); (case c6 => k_is); (case k6 => k_is)
    (case a7 => k_is); (case l7 => k_is); (case c7 => k_is); (case k7 => k_is)
    (case a8 => k_is); (case l8 => k_is); (case c8 => k_is); (case k8 => k_is)
    (case a9 => k_is); (case l9 => k_is); (case c9 => k_is); (case k9 => k_is)
    (case a10 => k_is); (case l10 => k_is); (case c10 => k_is); (case k10 => k_is)
    (case a11 => k_is); (case l11 => k_is); (case c11 => k_is); (case k11 => k_is)
    (case a12 => k_is); (case l12 => k_is); (case c12 => k_is); (case k12 => k_is)
    (case a13 => k_is); (case l13 => k_is); (case c13 => k_is); (case k13 => k_is)
    (case a14 => k_is); (case l14 => k_is); (case c14 => k_is); (case k14 => k_is)
    (case z_abs => k_is)
    (case z_bool => k_is)
    (case z_enumerate => k_is)
    (case z_int => k_is)
    (case z_isinstance => k_is)
    (case z_len => k_is)
    (case z_tuple => k_is)

