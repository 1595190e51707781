import PyProof.Rows.All
import Wide.All
import OpenK.AllK
import Wide.FinOn
import HandS.ForMost
import HandS.Deep
import HandS.IsInst
import HandS.TupAny
import HandS.Walk
import HandS.Exc
import HandS.WordsExc
import HandS.ExcOwn
import HandS.Zip
import HandS.Rev
import HandS.NoneIn
import KE.DataFind
import HandS.More
import HandS.SetFor
import PyProof.WalksMore
import KE.GoesMore
import KE.GoesEnum
import HandS.ExcField
import HandS.ExcIs
import HandS.ExcInit
import HandS.ExcValue
import KE.KExcIs
import PyProof.P3Eq
import PySem.Challenge.RW_wallspace_k51_points_off_walls
set_option Elab.async false
set_option linter.all false
set_option maxRecDepth 100000
set_option maxHeartbeats 4000000
namespace PF
open PySem L2

/-! ### results, slots, environments -/
/-- an own exception: the number of its class, what it keeps -/
structure Exn where
  cls : Nat
  place : Option Int
  deriving DecidableEq
inductive Rs (α : Type) where
  | stuck
  | ok (a : α)
  | err (x : Exn)
def Rs.bind {α β : Type} : Rs α → (α → Rs β) → Rs β
  | .stuck, _ => .stuck
  | .ok a, f => f a
  | .err x, _ => .err x
instance : Monad Rs where
  pure := .ok
  bind := Rs.bind
theorem ok_bind {α β : Type} (a : α) (f : α → Rs β) : (Rs.ok a >>= f) = f a := rfl
theorem err_bind {α β : Type} (x : Exn) (f : α → Rs β) : ((Rs.err x : Rs α) >>= f) = .err x := rfl
theorem stuck_bind {α β : Type} (f : α → Rs β) : ((Rs.stuck : Rs α) >>= f) = .stuck := rfl
theorem pure_eq {α : Type} (a : α) : (pure a : Rs α) = .ok a := rfl
/-- what a slot holds: nothing told, shared data, a list of our own, a dict of our own, a caught error -/
inductive Sl where
  | no
  | sh (d : PyData)
  | ol (ds : List PyData)
  | od (kvs : List (List Int × PyData))
  | exn (x : Exn)
abbrev Env := List Sl
def Sl.own : Sl → Bool
  | .ol _ => true
  | .od _ => true
  | _ => false
/-- the fixed things: the written part, where the error classes stand -/
structure Pc where
  K : PySem.W.Frag
  ca : Nat → Addr

def Ex (H H' : Hp) : Prop := ∀ a o, H a = some o → H' a = some o
theorem Ex.refl (H : Hp) : Ex H H := fun _ _ h => h
theorem Ex.trans {H H1 H2 : Hp} (a : Ex H H1) (b : Ex H1 H2) : Ex H H2 := fun x o h => b x o (a x o h)
theorem Ex.new {H : Hp} {p : Addr} {o : HO} (h : H p = none) : Ex H (upd H p o) := fun a u e => by
  rw [upd_ne (ne_of_none e h)]
  exact e
theorem Ex.back {H H' : Hp} {p : Addr} (e : Ex H H') (h : H' p = none) : H p = none := by
  cases h1 : H p with
  | none => rfl
  | some o =>
    rw [e p o h1] at h
    cases h
theorem Ex.rd {H H' : Hp} {a : Addr} {u : HO} (e : Ex H H') (h : Rd H a u) : Rd H' a u := by
  rcases h with h | ⟨o, h⟩
  · exact Or.inl (e a _ h)
  · exact Or.inr ⟨o, e a _ h⟩
theorem Ex.sql {K : PySem.W.Frag} {H H' : Hp} {a : Addr} {xs : List V} (e : Ex H H') (h : SqL K H a xs) : SqL K H' a xs := by
  rcases h with h | h
  · exact Or.inl (e.rd h)
  · exact Or.inr h
theorem Ex.sqt {K : PySem.W.Frag} {H H' : Hp} {a : Addr} {xs : List V} (e : Ex H H') (h : SqT K H a xs) : SqT K H' a xs := by
  rcases h with h | h
  · exact Or.inl (e.rd h)
  · exact Or.inr h
mutual
theorem Dp.ex {K : PySem.W.Frag} {H H' : Hp} (e : Ex H H') : ∀ {v : V} {d : PyData}, Dp K H v d → Dp K H' v d
  | _, _, .non => .non
  | _, _, .bl b => .bl b
  | _, _, .int i => .int i
  | _, _, .str x => .str x
  | _, _, .lst h a => .lst (e.sql h) (DpAll.ex e a)
  | _, _, .tup h a => .tup (e.sqt h) (DpAll.ex e a)
theorem DpAll.ex {K : PySem.W.Frag} {H H' : Hp} (e : Ex H H') : ∀ {vs : List V} {ds : List PyData}, DpAll K H vs ds → DpAll K H' vs ds
  | _, _, .nil => .nil
  | _, _, .cons h a => .cons (Dp.ex e h) (DpAll.ex e a)
end
theorem DpAll.length {K : PySem.W.Frag} {H : Hp} : ∀ {vs : List V} {ds : List PyData}, DpAll K H vs ds → vs.length = ds.length
  | _, _, .nil => rfl
  | _, _, .cons _ a => congrArg (· + 1) (DpAll.length a)
theorem DpAll.get {K : PySem.W.Frag} {H : Hp} : ∀ {vs : List V} {ds : List PyData} {i : Nat} {v : V}, DpAll K H vs ds → vs[i]? = some v → ∃ d, ds[i]? = some d ∧ Dp K H v d
  | _, _, _, _, .nil, e => by simp at e
  | _, _, 0, _, .cons h _, e => by simp at e; subst e; exact ⟨_, rfl, h⟩
  | _, _, i + 1, v, .cons _ a, e => by
    obtain ⟨d, h1, h2⟩ := DpAll.get (i := i) (v := v) a (by simpa using e)
    exact ⟨d, by simpa using h1, h2⟩
theorem DpAll.getD {K : PySem.W.Frag} {H : Hp} : ∀ {vs : List V} {ds : List PyData} {i : Nat} {d : PyData}, DpAll K H vs ds → ds[i]? = some d → ∃ v, vs[i]? = some v ∧ Dp K H v d
  | _, _, _, _, .nil, e => by simp at e
  | _, _, 0, _, .cons h _, e => by simp at e; subst e; exact ⟨_, rfl, h⟩
  | _, _, i + 1, v, .cons _ a, e => by
    obtain ⟨d, h1, h2⟩ := DpAll.getD (i := i) (d := v) a (by simpa using e)
    exact ⟨d, by simpa using h1, h2⟩
theorem DpAll.append {K : PySem.W.Frag} {H : Hp} : ∀ {vs ws : List V} {ds es : List PyData}, DpAll K H vs ds → DpAll K H ws es → DpAll K H (vs ++ ws) (ds ++ es)
  | _, _, _, _, .nil, b => b
  | _, _, _, _, .cons h a, b => .cons h (DpAll.append a b)
theorem DpAll.take {K : PySem.W.Frag} {H : Hp} : ∀ {vs : List V} {ds : List PyData} (n : Nat), DpAll K H vs ds → DpAll K H (vs.take n) (ds.take n)
  | _, _, 0, _ => by simp; exact .nil
  | _, _, _ + 1, .nil => by simp; exact .nil
  | _, _, n + 1, .cons h a => .cons h (DpAll.take n a)
theorem DpAll.drop {K : PySem.W.Frag} {H : Hp} : ∀ {vs : List V} {ds : List PyData} (n : Nat), DpAll K H vs ds → DpAll K H (vs.drop n) (ds.drop n)
  | _, _, 0, a => a
  | _, _, _ + 1, .nil => by simp; exact .nil
  | _, _, n + 1, .cons _ a => DpAll.drop n a
theorem DpAll.set {K : PySem.W.Frag} {H : Hp} {x : V} {d : PyData} (h : Dp K H x d) : ∀ {vs : List V} {ds : List PyData} (i : Nat), DpAll K H vs ds → DpAll K H (vs.set i x) (ds.set i d)
  | _, _, _, .nil => .nil
  | _, _, 0, .cons _ a => .cons h a
  | _, _, i + 1, .cons q a => .cons q (DpAll.set h i a)
theorem DpAll.eraseIdx {K : PySem.W.Frag} {H : Hp} : ∀ {vs : List V} {ds : List PyData} (i : Nat), DpAll K H vs ds → DpAll K H (vs.eraseIdx i) (ds.eraseIdx i)
  | _, _, _, .nil => .nil
  | _, _, 0, .cons _ a => a
  | _, _, i + 1, .cons q a => .cons q (DpAll.eraseIdx i a)
theorem DpAll.reverse {K : PySem.W.Frag} {H : Hp} : ∀ {vs : List V} {ds : List PyData}, DpAll K H vs ds → DpAll K H vs.reverse ds.reverse
  | _, _, .nil => .nil
  | _, _, .cons h a => by
    rw [List.reverse_cons, List.reverse_cons]
    exact DpAll.append (DpAll.reverse a) (.cons h .nil)
/-- the value of an int, a bool, None is known -/
theorem Dp.int_v {K : PySem.W.Frag} {H : Hp} {v : V} {i : Int} (h : Dp K H v (.int i)) : v = .int i := by cases h; rfl
theorem Dp.bl_v {K : PySem.W.Frag} {H : Hp} {v : V} {b : Bool} (h : Dp K H v (.bool b)) : v = .bl b := by cases h; rfl
theorem Dp.non_v {K : PySem.W.Frag} {H : Hp} {v : V} (h : Dp K H v .none) : v = .non := by cases h; rfl
theorem Dp.list_v {K : PySem.W.Frag} {H : Hp} {v : V} {ds : List PyData} (h : Dp K H v (.list ds)) : ∃ a xs, v = .ref a ∧ SqL K H a xs ∧ DpAll K H xs ds := by
  cases h with
  | lst h a => exact ⟨_, _, rfl, h, a⟩
theorem Dp.tuple_v {K : PySem.W.Frag} {H : Hp} {v : V} {ds : List PyData} (h : Dp K H v (.tuple ds)) : ∃ a xs, v = .ref a ∧ SqT K H a xs ∧ DpAll K H xs ds := by
  cases h with
  | tup h a => exact ⟨_, _, rfl, h, a⟩

/-! ### the visible heap G within the heap H -/
def NoOwn (o : Option HO) : Prop := o = none ∨ ∃ xs, o = some (.tup xs)
structure Nx (G H G' H' : Hp) : Prop where
  g : Ex G G'
  h : Ex H H'
  gh : Ex G' H'
  fr : ∀ a, H a ≠ none → G a = none → NoOwn (G' a)
theorem Nx.refl {G H : Hp} (e : Ex G H) : Nx G H G H := ⟨Ex.refl _, Ex.refl _, e, fun _ _ h => .inl h⟩
theorem Nx.trans {G H G1 H1 G2 H2 : Hp} (a : Nx G H G1 H1) (b : Nx G1 H1 G2 H2) : Nx G H G2 H2 := by
  refine ⟨a.g.trans b.g, a.h.trans b.h, b.gh, fun x hx gx => ?_⟩
  rcases a.fr x hx gx with h | ⟨xs, h⟩
  · refine b.fr x (fun z => hx ?_) h
    exact a.h.back z
  · exact .inr ⟨xs, b.g _ _ h⟩
/-- a new object, visible -/
theorem Nx.new {G H : Hp} {p : Addr} {o : HO} (e : Ex G H) (h : H p = none) : Nx G H (upd G p o) (upd H p o) := by
  have gp : G p = none := e.back h
  refine ⟨Ex.new gp, Ex.new h, fun a u q => ?_, fun a ha ga => ?_⟩
  · by_cases hp : a = p
    · subst hp
      rw [upd_same] at q ⊢
      exact q
    · rw [upd_ne hp] at q ⊢
      exact e a u q
  · have hp : a ≠ p := fun z => ha (by rw [z]; exact h)
    rw [upd_ne hp]
    exact .inl ga
/-- a new object, not shown yet -/
theorem Nx.hid {G H : Hp} {p : Addr} {o : HO} (e : Ex G H) (h : H p = none) : Nx G H G (upd H p o) :=
  ⟨Ex.refl _, Ex.new h, e.trans (Ex.new h), fun _ _ q => .inl q⟩
/-- an object that was not there at (G, H) is shown now -/
theorem Nx.show {G H G1 H1 : Hp} {p : Addr} {o : HO} (n : Nx G H G1 H1) (h0 : H p = none) (h1 : H1 p = some o) (g1 : G1 p = none) : Nx G H (upd G1 p o) H1 := by
  refine ⟨fun a u q => ?_, n.h, fun a u q => ?_, fun a ha ga => ?_⟩
  · have := n.g a u q
    rw [upd_ne (ne_of_none this g1)]
    exact this
  · by_cases hp : a = p
    · subst hp
      rw [upd_same] at q
      cases q
      exact h1
    · rw [upd_ne hp] at q
      exact n.gh a u q
  · have hp : a ≠ p := fun z => ha (by rw [z]; exact h0)
    rw [upd_ne hp]
    exact n.fr a ha ga

/-! ### a dict of our own -/
def KvOk (K : PySem.W.Frag) (G : Hp) (es : List (List Key × V)) (kvs : List (List Int × PyData)) : Prop :=
  es.map (·.1) = kvs.map (fun kv => kv.1.map Sum.inl) ∧ DpAll K G (es.map (·.2)) (kvs.map (·.2))
theorem KvOk.ex {K : PySem.W.Frag} {G G' : Hp} {es : List (List Key × V)} {kvs : List (List Int × PyData)} (e : Ex G G') (h : KvOk K G es kvs) : KvOk K G' es kvs := ⟨h.1, DpAll.ex e h.2⟩

/-! ### an error as it flies, as it is held -/
def XR (c : Pc) (x : Exn) (cl : Value) (dd : Option Addr) (H : Hp) : Prop :=
  cl = .ref (c.ca x.cls) ∧ (match x.place with
    | none => dd = none
    | some i => ∃ d, dd = some d ∧ H d = some (.xd [("place", .int i)]))
/-- an error's object, held -/
def excO (C : Addr) (d : Option Addr) (a : Addr) : HO := .ext fun h => ∃ oe vs, h.get? a = some oe ∧ oe.cls = .ref C ∧ oe.dict = d ∧ oe.data = .fields vs
def ExnOk (c : Pc) (G : Hp) (v : V) (x : Exn) : Prop :=
  ∃ a dd, v = .ref a ∧ G a = some (excO (c.ca x.cls) dd a) ∧ (match x.place with
    | none => dd = none
    | some i => ∃ d, dd = some d ∧ G d = some (.xd [("place", .int i)]))
theorem ExnOk.ex {c : Pc} {G G' : Hp} {v : V} {x : Exn} (e : Ex G G') (h : ExnOk c G v x) : ExnOk c G' v x := by
  obtain ⟨a, dd, e1, e2, e3⟩ := h
  refine ⟨a, dd, e1, e _ _ e2, ?_⟩
  cases hp : x.place with
  | none => rw [hp] at e3; exact e3
  | some i =>
    rw [hp] at e3
    obtain ⟨d, q1, q2⟩ := e3
    exact ⟨d, q1, e _ _ q2⟩

/-! ### slots and environments over the heap -/
def SlOk (c : Pc) (G H : Hp) : Sl → Option V → Prop
  | .no, _ => True
  | .sh d, o => ∃ v, o = some v ∧ Dp c.K G v d
  | .ol ds, o => ∃ p xs, o = some (.ref p) ∧ G p = none ∧ H p = some (.lst xs) ∧ DpAll c.K G xs ds
  | .od kvs, o => ∃ p es, o = some (.ref p) ∧ G p = none ∧ H p = some (.dT es) ∧ KvOk c.K G es kvs
  | .exn x, o => ∃ v, o = some v ∧ ExnOk c G v x
theorem SlOk.nx {c : Pc} {G H G' H' : Hp} {s : Sl} {o : Option V} (n : Nx G H G' H') (h : SlOk c G H s o) : SlOk c G' H' s o := by
  have key : ∀ p u, G p = none → H p = some u → (∀ xs, u ≠ .tup xs) → G' p = none := fun p u g1 h1 hu => by
    rcases n.fr p (by rw [h1]; simp) g1 with q | ⟨xs, q⟩
    · exact q
    · have e1 := n.gh _ _ q
      have e2 := n.h _ _ h1
      rw [e1] at e2
      cases e2
      exact absurd rfl (hu xs)
  cases s with
  | no => trivial
  | sh d => obtain ⟨v, e, q⟩ := h; exact ⟨v, e, Dp.ex n.g q⟩
  | ol ds => obtain ⟨p, xs, e, g1, h1, q⟩ := h; exact ⟨p, xs, e, key p _ g1 h1 (fun _ z => by cases z), n.h _ _ h1, DpAll.ex n.g q⟩
  | od kvs => obtain ⟨p, es, e, g1, h1, q⟩ := h; exact ⟨p, es, e, key p _ g1 h1 (fun _ z => by cases z), n.h _ _ h1, KvOk.ex n.g q⟩
  | exn x => obtain ⟨v, e, q⟩ := h; exact ⟨v, e, q.ex n.g⟩
structure Rep (c : Pc) (G H : Hp) (ρ : Env) (σ : L2.St) : Prop where
  gh : Ex G H
  len : ρ.length = σ.length
  sl : ∀ (i : Nat) s, ρ[i]? = some s → ∃ o, σ[i]? = some o ∧ SlOk c G H s o
  inj : ∀ (i j : Nat) s s' p, ρ[i]? = some s → ρ[j]? = some s' → s.own = true → s'.own = true → σ[i]? = some (some (.ref p)) → σ[j]? = some (some (.ref p)) → i = j
theorem Rep.nx {c : Pc} {G H G' H' : Hp} {ρ : Env} {σ : L2.St} (r : Rep c G H ρ σ) (n : Nx G H G' H') : Rep c G' H' ρ σ :=
  ⟨n.gh, r.len, fun i s e => let ⟨o, e1, q⟩ := r.sl i s e; ⟨o, e1, q.nx n⟩, r.inj⟩
/-- a slot takes shared data (or nothing told) -/
theorem Rep.set {c : Pc} {G H : Hp} {ρ : Env} {σ : L2.St} {i : Nat} {s : Sl} {o : Option V} (r : Rep c G H ρ σ) (hs : s.own = false) (h : SlOk c G H s o) : Rep c G H (ρ.set i s) (σ.set i o) := by
  refine ⟨r.gh, by rw [List.length_set, List.length_set, r.len], fun j u e => ?_, fun j k u u' p e1 e2 w1 w2 f1 f2 => ?_⟩
  · rw [List.getElem?_set] at e ⊢
    by_cases hij : i = j
    · rw [if_pos hij] at e ⊢
      by_cases hl : i < ρ.length
      · rw [if_pos hl] at e
        cases e
        rw [if_pos (by rw [← r.len]; exact hl)]
        exact ⟨o, rfl, h⟩
      · rw [if_neg hl] at e
        cases e
    · rw [if_neg hij] at e ⊢
      exact r.sl j u e
  · have key : ∀ (m : Nat) (w : Sl), (ρ.set i s)[m]? = some w → w.own = true → i ≠ m := fun m w e hw z => by
      rw [List.getElem?_set, if_pos z] at e
      split at e
      · cases e; rw [hs] at hw; cases hw
      · cases e
    have n1 := key j u e1 w1
    have n2 := key k u' e2 w2
    rw [List.getElem?_set, if_neg n1] at e1 f1
    rw [List.getElem?_set, if_neg n2] at e2 f2
    exact r.inj j k u u' p e1 e2 w1 w2 f1 f2
/-- a slot takes an object of our own that no slot held -/
theorem Rep.setOwn {c : Pc} {G H : Hp} {ρ : Env} {σ : L2.St} {i : Nat} {s : Sl} {p : Addr} (r : Rep c G H ρ σ) (h : SlOk c G H s (some (.ref p)))
    (hn : ∀ (j : Nat) u, j ≠ i → ρ[j]? = some u → u.own = true → σ[j]? ≠ some (some (.ref p))) : Rep c G H (ρ.set i s) (σ.set i (some (.ref p))) := by
  refine ⟨r.gh, by rw [List.length_set, List.length_set, r.len], fun j u e => ?_, fun j k u u' q e1 e2 w1 w2 f1 f2 => ?_⟩
  · rw [List.getElem?_set] at e ⊢
    by_cases hij : i = j
    · rw [if_pos hij] at e ⊢
      by_cases hl : i < ρ.length
      · rw [if_pos hl] at e
        cases e
        rw [if_pos (by rw [← r.len]; exact hl)]
        exact ⟨_, rfl, h⟩
      · rw [if_neg hl] at e
        cases e
    · rw [if_neg hij] at e ⊢
      exact r.sl j u e
  · by_cases h1 : i = j
    · by_cases h2 : i = k
      · rw [← h1, ← h2]
      · rw [List.getElem?_set, if_pos h1] at f1
        rw [List.getElem?_set, if_neg h2] at f2 e2
        split at f1
        · cases f1
          exact absurd f2 (hn k u' (fun z => h2 z.symm) e2 w2)
        · cases f1
    · by_cases h2 : i = k
      · rw [List.getElem?_set, if_neg h1] at f1 e1
        rw [List.getElem?_set, if_pos h2] at f2
        split at f2
        · cases f2
          exact absurd f1 (hn j u (fun z => h1 z.symm) e1 w1)
        · cases f2
      · rw [List.getElem?_set, if_neg h1] at f1 e1
        rw [List.getElem?_set, if_neg h2] at f2 e2
        exact r.inj j k u u' q e1 e2 w1 w2 f1 f2
/-- an owned object of slot i is rewritten -/
theorem Rep.mut {c : Pc} {G H : Hp} {ρ : Env} {σ : L2.St} {i : Nat} {s s' : Sl} {p : Addr} {o' : HO} (r : Rep c G H ρ σ) (hi : ρ[i]? = some s) (ho : s.own = true) (hp : σ[i]? = some (some (.ref p)))
    (gp : G p = none) (h : SlOk c G (upd H p o') s' (some (.ref p))) : Rep c G (upd H p o') (ρ.set i s') σ := by
  have e0 : σ.set i (some (.ref p)) = σ := by
    apply List.ext_getElem?
    intro j
    rw [List.getElem?_set]
    by_cases hij : i = j
    · rw [if_pos hij]
      have hl : i < σ.length := (List.getElem?_eq_some_iff.mp hp).1
      rw [if_pos hl, ← hij]
      exact hp.symm
    · rw [if_neg hij]
  have r1 : ∀ (j : Nat) u, ρ[j]? = some u → j ≠ i → ∃ o, σ[j]? = some o ∧ SlOk c G (upd H p o') u o := fun j u e hj => by
    obtain ⟨o, e1, q⟩ := r.sl j u e
    refine ⟨o, e1, ?_⟩
    have ne : ∀ b, o = some (.ref b) → u.own = true → b ≠ p := fun b eb hu z => by
      subst z
      rw [eb] at e1
      exact hj (r.inj j i u s b e hi hu ho e1 hp)
    cases u with
    | no => trivial
    | sh d => exact q
    | ol ds => obtain ⟨b, xs, e2, g1, h1, q2⟩ := q; exact ⟨b, xs, e2, g1, by rw [upd_ne (ne b e2 rfl)]; exact h1, q2⟩
    | od kvs => obtain ⟨b, xs, e2, g1, h1, q2⟩ := q; exact ⟨b, xs, e2, g1, by rw [upd_ne (ne b e2 rfl)]; exact h1, q2⟩
    | exn x => exact q
  have gh : Ex G (upd H p o') := fun a u q => by
    rw [upd_ne (ne_of_none q gp)]
    exact r.gh a u q
  refine ⟨gh, by rw [List.length_set, r.len], fun j u e => ?_, fun j k u u' q e1 e2 w1 w2 f1 f2 => ?_⟩
  · rw [List.getElem?_set] at e
    by_cases hij : i = j
    · rw [if_pos hij] at e
      split at e
      · cases e
        rw [← hij]
        exact ⟨_, hp, h⟩
      · cases e
    · rw [if_neg hij] at e
      exact r1 j u e (fun z => hij z.symm)
  · have key : ∀ (m : Nat) w, (ρ.set i s')[m]? = some w → w.own = true → ∃ w', ρ[m]? = some w' ∧ w'.own = true := fun m w e hw => by
      rw [List.getElem?_set] at e
      by_cases him : i = m
      · rw [← him]
        exact ⟨s, hi, ho⟩
      · rw [if_neg him] at e
        exact ⟨w, e, hw⟩
    obtain ⟨w, a1, a2⟩ := key j u e1 w1
    obtain ⟨w', b1, b2⟩ := key k u' e2 w2
    exact r.inj j k w w' q a1 b1 a2 b2 f1 f2
/-- what our own objects are: not those of the entry -/
structure Ent (G0 H0 G H : Hp) (ρ : Env) (σ : L2.St) : Prop where
  nx : Nx G0 H0 G H
  own : ∀ (i : Nat) s p, ρ[i]? = some s → s.own = true → σ[i]? = some (some (.ref p)) → H0 p = none
theorem Ent.go {G0 H0 G H G' H' : Hp} {ρ : Env} {σ : L2.St} (e : Ent G0 H0 G H ρ σ) (n : Nx G H G' H') : Ent G0 H0 G' H' ρ σ := ⟨e.nx.trans n, e.own⟩
end PF

namespace PF
open PySem L2

/-- shared data, or a list of our own whose items are shared -/
def Db (K : PySem.W.Frag) (G H : Hp) (v : V) (d : PyData) : Prop := Dp K G v d ∨ ∃ a xs ds, d = .list ds ∧ v = .ref a ∧ SqL K H a xs ∧ DpAll K G xs ds
theorem db_h {K : PySem.W.Frag} {G H : Hp} {v : V} {d : PyData} (e : Ex G H) (h : Db K G H v d) : Dp K H v d := by
  rcases h with h | ⟨a, xs, ds, rfl, rfl, h, q⟩
  · exact Dp.ex e h
  · exact .lst h (DpAll.ex e q)
theorem db_nx {K : PySem.W.Frag} {G H G' H' : Hp} {v : V} {d : PyData} (n : Nx G H G' H') (h : Db K G H v d) : Db K G' H' v d := by
  rcases h with h | ⟨a, xs, ds, rfl, rfl, h, q⟩
  · exact .inl (Dp.ex n.g h)
  · exact .inr ⟨a, xs, ds, rfl, rfl, Ex.sql n.h h, DpAll.ex n.g q⟩
theorem db_list {K : PySem.W.Frag} {G H : Hp} {v : V} {ds : List PyData} (e : Ex G H) (h : Db K G H v (.list ds)) : ∃ a xs, v = .ref a ∧ SqL K H a xs ∧ DpAll K G xs ds := by
  rcases h with h | ⟨a, xs, ds, z, rfl, h, q⟩
  · obtain ⟨a, xs, rfl, h, q⟩ := Dp.list_v h
    exact ⟨a, xs, rfl, Ex.sql e h, q⟩
  · cases z
    exact ⟨a, xs, rfl, h, q⟩
theorem db_tup {K : PySem.W.Frag} {G H : Hp} {v : V} {ds : List PyData} (h : Db K G H v (.tuple ds)) : ∃ a xs, v = .ref a ∧ SqT K G a xs ∧ DpAll K G xs ds := by
  rcases h with h | ⟨a, xs, ds, z, _⟩
  · exact Dp.tuple_v h
  · cases z
theorem db_int {K : PySem.W.Frag} {G H : Hp} {v : V} {i : Int} (h : Db K G H v (.int i)) : v = .int i := by
  rcases h with h | ⟨a, xs, ds, z, _⟩
  · exact Dp.int_v h
  · cases z
theorem db_bl {K : PySem.W.Frag} {G H : Hp} {v : V} {i : Bool} (h : Db K G H v (.bool i)) : v = .bl i := by
  rcases h with h | ⟨a, xs, ds, z, _⟩
  · exact Dp.bl_v h
  · cases z
theorem db_non {K : PySem.W.Frag} {G H : Hp} {v : V} (h : Db K G H v .none) : v = .non := by
  rcases h with h | ⟨a, xs, ds, z, _⟩
  · exact Dp.non_v h
  · cases z

/-! ### what a reading gives -/
abbrev Rel (β α : Type) := Hp → Hp → Hp → Hp → β → α → Prop
def ErrP {α : Type} (c : Pc) (E : XK) (G H : Hp) (r : Rs α) : Prop := ∀ x, r = .err x → ∀ G' H' cl dd, Nx G H G' H' → XR c x cl dd G' → E cl dd H'
theorem ErrP.go {α : Type} {c : Pc} {E : XK} {G H G' H' : Hp} {r : Rs α} (h : ErrP c E G H r) (n : Nx G H G' H') : ErrP c E G' H' r := fun x e _ _ _ _ m q => h x e _ _ _ _ (n.trans m) q
def SemG {β α : Type} (c : Pc) (E : XK) (t : L2.St → Hp → (β → Hp → Prop) → Prop) (F : Env → Rs α) (R : Rel β α) : Prop :=
  ∀ (G H : Hp) (ρ : Env) (σ : L2.St), Rep c G H ρ σ → F ρ ≠ .stuck → ∀ Q : β → Hp → Prop,
    (∀ a, F ρ = .ok a → ∀ G' H' v, Nx G H G' H' → R G H G' H' v a → Q v H') → ErrP c E G H (F ρ) → t σ H Q
theorem SemG.use {β α γ : Type} {c : Pc} {E : XK} {t : L2.St → Hp → (β → Hp → Prop) → Prop} {F : Env → Rs α} {R : Rel β α} (h : SemG c E t F R) {k : α → Rs γ} {G H : Hp} {ρ : Env} {σ : L2.St} (rep : Rep c G H ρ σ)
    (hns : (F ρ >>= k) ≠ .stuck) (her : ErrP c E G H (F ρ >>= k)) {Q : β → Hp → Prop}
    (go : ∀ a, F ρ = .ok a → (F ρ >>= k) = k a → ∀ G' H' v, Nx G H G' H' → Rep c G' H' ρ σ → R G H G' H' v a → k a ≠ .stuck → ErrP c E G' H' (k a) → Q v H') : t σ H Q := by
  refine h G H ρ σ rep (fun z => hns (by rw [z]; rfl)) Q (fun a e G' H' v n q => ?_) (fun x e => ?_)
  · have e1 : (F ρ >>= k) = k a := by rw [e]; rfl
    refine go a e e1 G' H' v n (rep.nx n) q (by rw [← e1]; exact hns) ?_
    rw [← e1]
    exact her.go n
  · exact her x (by rw [e]; rfl)
def RB (c : Pc) : Rel V PyData := fun _ _ G' H' v d => Db c.K G' H' v d
def RS (c : Pc) : Rel V PyData := fun _ _ G' _ v d => Dp c.K G' v d
def RV (c : Pc) : Rel V Sl := fun _ H G' H' v s => match s with
  | .no => False
  | .sh d => Dp c.K G' v d
  | .ol ds => ∃ p xs, v = .ref p ∧ H p = none ∧ G' p = none ∧ H' p = some (.lst xs) ∧ DpAll c.K G' xs ds
  | .od kvs => ∃ p es, v = .ref p ∧ H p = none ∧ G' p = none ∧ H' p = some (.dT es) ∧ KvOk c.K G' es kvs
  | .exn x => ExnOk c G' v x
def RT : Rel Bool Bool := fun _ _ _ _ b a => b = a
def RA (c : Pc) : Rel (List V) (List PyData) := fun _ _ G' _ vs ds => DpAll c.K G' vs ds
def RO : Rel (Option Int) (Option Int) := fun _ _ _ _ b a => b = a
theorem RV.mono {c : Pc} {G H G1 H1 G' H' : Hp} {v : V} {s : Sl} (n : Nx G H G1 H1) (h : RV c G1 H1 G' H' v s) : RV c G H G' H' v s := by
  cases s with
  | no => exact h
  | sh d => exact h
  | ol ds => obtain ⟨p, xs, e, h1, q⟩ := h; exact ⟨p, xs, e, n.h.back h1, q⟩
  | od ds => obtain ⟨p, xs, e, h1, q⟩ := h; exact ⟨p, xs, e, n.h.back h1, q⟩
  | exn x => exact h

/-! ### the judgements: the syntax's reading, and what it computes -/
structure JB (ca : Nat → Addr) (X : Cx) (E : XK) (e : Expr) (t : TE) (F : Env → Rs PyData) : Prop where
  pe : PE X e t
  sem : SemG ⟨X.K, ca⟩ E t F (RB ⟨X.K, ca⟩)
structure JS (ca : Nat → Addr) (X : Cx) (E : XK) (e : Expr) (t : TE) (F : Env → Rs PyData) : Prop where
  pe : PE X e t
  sem : SemG ⟨X.K, ca⟩ E t F (RS ⟨X.K, ca⟩)
structure JV (ca : Nat → Addr) (X : Cx) (E : XK) (e : Expr) (t : TE) (F : Env → Rs Sl) : Prop where
  pe : PE X e t
  sem : SemG ⟨X.K, ca⟩ E t F (RV ⟨X.K, ca⟩)
structure JT (ca : Nat → Addr) (X : Cx) (E : XK) (e : Expr) (t : TT) (F : Env → Rs Bool) : Prop where
  pt : PT X e t
  sem : SemG ⟨X.K, ca⟩ E t F RT
structure JA (ca : Nat → Addr) (X : Cx) (E : XK) (es : List Expr) (t : TA) (F : Env → Rs (List PyData)) : Prop where
  pa : PA X es t
  sem : SemG ⟨X.K, ca⟩ E t F (RA ⟨X.K, ca⟩)
structure JO (ca : Nat → Addr) (X : Cx) (E : XK) (e : Option Expr) (t : TO) (F : Env → Rs (Option Int)) : Prop where
  po : PO X e t
  sem : SemG ⟨X.K, ca⟩ E t F RO

def slShare : Sl → Rs PyData
  | .sh d => .ok d
  | .ol ds => .ok (.list ds)
  | _ => .stuck
def fSh (F : Env → Rs Sl) : Env → Rs PyData := fun ρ => F ρ >>= slShare
def fV (F : Env → Rs PyData) : Env → Rs Sl := fun ρ => F ρ >>= fun d => .ok (.sh d)
section
variable {ca : Nat → Addr} {X : Cx} {E : XK} {e : Expr} {t : TE}
theorem jb_s {F : Env → Rs PyData} (h : JS ca X E e t F) : JB ca X E e t F :=
  ⟨h.pe, fun G H ρ σ rep hns Q ok er => h.sem G H ρ σ rep hns Q (fun a ea G' H' v n q => ok a ea G' H' v n (.inl q)) er⟩
theorem jv_s {F : Env → Rs PyData} (h : JS ca X E e t F) : JV ca X E e t (fV F) :=
  ⟨h.pe, fun G H ρ σ rep hns Q ok er => h.sem.use rep hns er fun a ea e1 G' H' v n _ q _ _ => ok (.sh a) e1 G' H' v n q⟩
theorem js_v {F : Env → Rs Sl} (h : JV ca X E e t F) : JS ca X E e t (fSh F) := by
  refine ⟨h.pe, fun G H ρ σ rep hns Q ok er => h.sem.use rep hns er fun a ea e1 G' H' v n _ q hk _ => ?_⟩
  cases a with
  | no => exact absurd rfl hk
  | sh d => exact ok d e1 G' H' v n q
  | ol ds =>
    obtain ⟨p, xs, rfl, h0, g1, h1, q⟩ := q
    have m := n.show h0 h1 g1
    refine ok (.list ds) e1 (upd G' p (.lst xs)) H' _ m ?_
    have x : Ex G' (upd G' p (.lst xs)) := Ex.new g1
    exact Dp.lst (.inl (.inl upd_same)) (DpAll.ex x q)
  | od kvs => exact absurd rfl hk
  | exn x => exact absurd rfl hk
end

/-! ### names, constants -/
def slB : Option Sl → Rs PyData
  | some (.sh d) => .ok d
  | some (.ol ds) => .ok (.list ds)
  | _ => .stuck
def slS : Option Sl → Rs PyData
  | some (.sh d) => .ok d
  | _ => .stuck
def fVarB (i : Nat) : Env → Rs PyData := fun ρ => slB ρ[i]?
def fVarS (i : Nat) : Env → Rs PyData := fun ρ => slS ρ[i]?
def fC (d : PyData) : Env → Rs PyData := fun _ => .ok d
section
variable {ca : Nat → Addr} {X : Cx} {E : XK} {pos : Pos}
theorem jb_var (i : Nat) {x : Str} (h : PE X (.Name x pos) (tVar i)) : JB ca X E (.Name x pos) (tVar i) (fVarB i) := by
  refine ⟨h, fun G H ρ σ rep hns Q ok er => ?_⟩
  unfold fVarB at hns ok
  cases hs : ρ[i]? with
  | none => rw [hs] at hns; exact absurd rfl hns
  | some s =>
    rw [hs] at hns ok
    obtain ⟨o, e1, q⟩ := rep.sl i s hs
    cases s with
    | sh d =>
      obtain ⟨v, rfl, q⟩ := q
      exact ⟨v, e1, ok d rfl G H v (Nx.refl rep.gh) (.inl q)⟩
    | ol ds =>
      obtain ⟨p, xs, rfl, g1, h1, q⟩ := q
      exact ⟨_, e1, ok (.list ds) rfl G H _ (Nx.refl rep.gh) (.inr ⟨_, _, _, rfl, rfl, .inl (.inl h1), q⟩)⟩
    | no => exact absurd rfl hns
    | od _ => exact absurd rfl hns
    | exn _ => exact absurd rfl hns
theorem js_var (i : Nat) {x : Str} (h : PE X (.Name x pos) (tVar i)) : JS ca X E (.Name x pos) (tVar i) (fVarS i) := by
  refine ⟨h, fun G H ρ σ rep hns Q ok er => ?_⟩
  unfold fVarS at hns ok
  cases hs : ρ[i]? with
  | none => rw [hs] at hns; exact absurd rfl hns
  | some s =>
    rw [hs] at hns ok
    obtain ⟨o, e1, q⟩ := rep.sl i s hs
    cases s with
    | sh d =>
      obtain ⟨v, rfl, q⟩ := q
      exact ⟨v, e1, ok d rfl G H v (Nx.refl rep.gh) q⟩
    | ol ds => exact absurd rfl hns
    | no => exact absurd rfl hns
    | od _ => exact absurd rfl hns
    | exn _ => exact absurd rfl hns
theorem sem_c {c : Pc} {v : V} {d : PyData} (h : ∀ G, Dp c.K G v d) : SemG c E (tC v) (fC d) (RS c) :=
  fun G H ρ σ rep _ Q ok _ => ok d rfl G H v (Nx.refl rep.gh) (h G)
theorem js_int {i : Int} {j : Nat} : JS ca X E (.Constant (.int i) j pos) (tC (.int i)) (fC (.int i)) := ⟨pe_int, sem_c fun _ => .int i⟩
theorem js_bl {b : Bool} {j : Nat} : JS ca X E (.Constant (.bool b) j pos) (tC (.bl b)) (fC (.bool b)) := ⟨pe_bl, sem_c fun _ => .bl b⟩
theorem js_non {j : Nat} : JS ca X E (.Constant .none j pos) (tC .non) (fC .none) := ⟨pe_non, sem_c fun _ => .non⟩
end

/-! ### two-place operations -/
def fOp {α : Type} (f : PyData → PyData → Rs α) (Fa Fb : Env → Rs PyData) : Env → Rs α := fun ρ => Fa ρ >>= fun a => Fb ρ >>= fun b => f a b
/-- f is computed by the rule r -/
structure OpSem {α : Type} (c : Pc) (r : R2) (f : PyData → PyData → Rs α) (R : Rel V α) : Prop where
  go : ∀ G H x y a b s, Ex G H → Db c.K G H x a → Db c.K G H y b → f a b = .ok s → ∀ Q : VK, (∀ G' H' v, Nx G H G' H' → R G H G' H' v s → Q v H') → r x y H Q
  ne : ∀ a b x, f a b ≠ .err x
theorem sem_op {α : Type} {c : Pc} {E : XK} {r : R2} {f : PyData → PyData → Rs α} {R : Rel V α} {ta tb : TE} {Fa Fb : Env → Rs PyData} (hr : OpSem c r f R)
    (hR : ∀ G H G1 H1 G' H' v s, Nx G H G1 H1 → R G1 H1 G' H' v s → R G H G' H' v s) (ha : SemG c E ta Fa (RB c)) (hb : SemG c E tb Fb (RB c)) : SemG c E (tOp r ta tb) (fOp f Fa Fb) R := by
  intro G H ρ σ rep hns Q ok er
  refine ha.use rep hns er fun a ea e1 G1 H1 x n1 r1 q1 h1 er1 => ?_
  refine hb.use r1 h1 er1 fun b eb e2 G2 H2 y n2 r2 q2 h2 er2 => ?_
  cases hf : f a b with
  | stuck => exact absurd hf h2
  | err z => exact absurd hf (hr.ne a b z)
  | ok s =>
    refine hr.go G2 H2 x y a b s n2.gh (db_nx n2 q1) q2 hf Q fun G' H' v n3 q3 => ?_
    refine ok s ?_ G' H' v ((n1.trans n2).trans n3) (hR _ _ _ _ _ _ _ _ (n1.trans n2) q3)
    unfold fOp
    rw [e1, e2, hf]
theorem RS.mono {c : Pc} : ∀ (G H G1 H1 G' H' : Hp) (v : V) (s : PyData), Nx G H G1 H1 → RS c G1 H1 G' H' v s → RS c G H G' H' v s := fun _ _ _ _ _ _ _ _ _ h => h
theorem RV.mono' {c : Pc} : ∀ (G H G1 H1 G' H' : Hp) (v : V) (s : Sl), Nx G H G1 H1 → RV c G1 H1 G' H' v s → RV c G H G' H' v s := fun _ _ _ _ _ _ _ _ n h => RV.mono n h
def intOf : PyData → Rs Int
  | .int i => .ok i
  | _ => .stuck
/-- the ints' own operations -/
def iop (f : Int → Int → Rs PyData) : PyData → PyData → Rs PyData
  | .int a, .int b => f a b
  | _, _ => .stuck
theorem iop_ok {f : Int → Int → Rs PyData} {a b : PyData} {s : PyData} (h : iop f a b = .ok s) : ∃ i j, a = .int i ∧ b = .int j ∧ f i j = .ok s := by
  unfold iop at h
  split at h
  · exact ⟨_, _, rfl, rfl, h⟩
  · cases h
theorem iop_ne {f : Int → Int → Rs PyData} (hf : ∀ i j x, f i j ≠ .err x) : ∀ a b x, iop f a b ≠ .err x := fun a b x h => by
  unfold iop at h
  split at h
  · exact hf _ _ x h
  · cases h
theorem opsem_int {c : Pc} {C : Int → Int → Prop} {g : Int → Int → V} {f : Int → Int → Rs PyData} (hf : ∀ i j s, f i j = .ok s → C i j ∧ ∀ G, Dp c.K G (g i j) s) (hne : ∀ i j x, f i j ≠ .err x) : OpSem c (rI C g) (iop f) (RS c) where
  go := fun G H x y a b s e da db hs Q q => by
    obtain ⟨i, j, rfl, rfl, hs⟩ := iop_ok hs
    obtain ⟨h1, h2⟩ := hf i j s hs
    exact ⟨i, j, db_int da, db_int db, h1, q G H _ (Nx.refl e) (h2 G)⟩
  ne := iop_ne hne
theorem opsem_int0 {c : Pc} {g : Int → Int → V} {f : Int → Int → PyData} (hf : ∀ i j G, Dp c.K G (g i j) (f i j)) : OpSem c (rI0 g) (iop fun i j => .ok (f i j)) (RS c) where
  go := fun G H x y a b s e da db hs Q q => by
    obtain ⟨i, j, rfl, rfl, hs⟩ := iop_ok hs
    cases hs
    exact ⟨i, j, db_int da, db_int db, q G H _ (Nx.refl e) (hf i j G)⟩
  ne := iop_ne fun _ _ _ h => nomatch h
/-- how large a list may grow here -/
abbrev lim : Nat := 1000000
theorem lim_le {n : Nat} (h : n ≤ lim) : n ≤ sizeLine := Nat.le_trans h (by decide)
theorem lim_lt {n : Nat} (h : n < lim) : n < sizeLine := Nat.lt_of_lt_of_le h (by decide)
/-- + of ints, lists, tuples -/
def addD : PyData → PyData → Rs Sl
  | .int a, .int b => .ok (.sh (.int (a + b)))
  | .list xs, .list ys => if xs.length + ys.length ≤ lim then .ok (.ol (xs ++ ys)) else .stuck
  | .tuple xs, .tuple ys => if xs.length + ys.length ≤ lim then .ok (.sh (.tuple (xs ++ ys))) else .stuck
  | _, _ => .stuck
def rAddA (K : PySem.W.Frag) : R2 := fun x y H Q => (rI0 (fun i j => .int (i + j)) x y H Q ∨ (∃ a b xs ys, x = .ref a ∧ y = .ref b ∧ SqL K H a xs ∧ SqL K H b ys ∧ xs.length + ys.length ≤ sizeLine ∧ ∀ p, H p = none → Q (.ref p) (upd H p (.lst (xs ++ ys))))) ∨ rCatA K x y H Q
theorem opsem_add {c : Pc} : OpSem c (rAddA c.K) addD (RV c) where
  go := fun G H x y a b s e da db hs Q q => by
    unfold addD at hs
    split at hs
    · cases hs
      exact .inl (.inl ⟨_, _, db_int da, db_int db, q G H _ (Nx.refl e) (.int _)⟩)
    · split at hs
      · rename_i xs ys hl
        cases hs
        obtain ⟨p, vs, rfl, hv, av⟩ := db_list e da
        obtain ⟨r, ws, rfl, hw, aw⟩ := db_list e db
        exact .inl (.inr ⟨p, r, vs, ws, rfl, rfl, hv, hw, lim_le (by rw [DpAll.length av, DpAll.length aw]; exact hl), fun l hl =>
          q G _ _ (Nx.hid e hl) ⟨l, _, rfl, hl, e.back hl, upd_same, DpAll.append av aw⟩⟩)
      · cases hs
    · split at hs
      · rename_i xs ys hl
        cases hs
        obtain ⟨p, vs, rfl, hv, av⟩ := db_tup da
        obtain ⟨r, ws, rfl, hw, aw⟩ := db_tup db
        have lv := DpAll.length av
        have lw := DpAll.length aw
        refine .inr ⟨p, r, vs, ws, rfl, rfl, Ex.sqt e hv, Ex.sqt e hw, lim_le (by rw [lv, lw]; exact hl), fun z => ?_, fun z1 z2 => ?_, fun z1 z2 l hl => ?_⟩
        · subst z
          cases av
          exact q G H _ (Nx.refl e) (.tup hw aw)
        · subst z2
          cases aw
          rw [List.append_nil] at q
          exact q G H _ (Nx.refl e) (.tup hv av)
        · exact q _ _ _ (Nx.new e hl) (.tup (.inl (.inl upd_same)) (DpAll.ex (Ex.new (e.back hl)) (DpAll.append av aw)))
      · cases hs
    · cases hs
  ne := fun a b x h => by
    unfold addD at h
    split at h
    · cases h
    · split at h <;> cases h
    · split at h <;> cases h
    · cases h
end PF

namespace PF
open PySem L2

/-! ### operators of the machine -/
def mulOk (i j : Int) : Prop := i.natAbs.log2 < 64 ∨ j.natAbs.log2 < 64 ∨ i.natAbs.log2 + j.natAbs.log2 < 134217000
instance (i j : Int) : Decidable (mulOk i j) := by unfold mulOk; infer_instance
theorem mulOk.ok {i j : Int} (h : mulOk i j) : IntMulOk i j := by
  have b : ∀ x : Int, Builtin.Int.intBits x ≤ x.natAbs.log2 + 1 := fun x => by
    unfold Builtin.Int.intBits
    split <;> omega
  have h1 := b i
  have h2 := b j
  rcases h with h | h | h
  · exact IntMulOk.of_left (by omega)
  · exact IntMulOk.of_right (by omega)
  · have e : bitsLine = 134217728 := by decide
    unfold IntMulOk
    intro z
    rw [Bool.and_eq_true] at z
    have z2 := z.2
    unfold Builtin.Int.intTooBig at z2
    have z3 := of_decide_eq_true z2
    rw [e] at z3
    omega
def divOk (i j : Int) : Prop := j ≠ 0 ∧ Builtin.divisionGoesByPylong i j = false
instance (i j : Int) : Decidable (divOk i j) := by unfold divOk; infer_instance
def powOk (i j : Int) : Prop := 0 ≤ j ∧ j ≤ 1000000 ∧ i.natAbs < 2 ^ 64
instance (i j : Int) : Decidable (powOk i j) := by unfold powOk; infer_instance
section
variable {X : Cx}
theorem op_mulP : OpR X (binaryOp .Mult) (rI mulOk fun i j => .int (i * j)) := opI fun _ _ _ _ _ _ _ hc q => PyProof.Rows.mul_int q hc.ok
theorem op_divP : OpR X (binaryOp .FloorDiv) (rI divOk fun i j => .int (i.fdiv j)) := opI fun i j _ _ _ _ _ hc q => PyProof.Rows.floordiv_int hc.1 q (.inl hc.2)
def rCatL (K : PySem.W.Frag) : R2 := fun x y H Q => ∃ a b xs ys, x = .ref a ∧ y = .ref b ∧ SqL K H a xs ∧ SqL K H b ys ∧ xs.length + ys.length ≤ sizeLine ∧ ∀ p, H p = none → Q (.ref p) (upd H p (.lst (xs ++ ys)))
open PyProof.Rows in
theorem op_catL : OpR X (binaryOp .Add) (rCatL X.K) := by
  intro pins s σ H x y v u Q I rx ry h
  obtain ⟨a, b, xs, ys, rfl, rfl, ha, hb, hz, q⟩ := h
  cases rx
  cases ry
  obtain ⟨its, r1, ⟨⟨cls, dd, data, sl⟩, n, ho, hc, _, hd⟩, z1⟩ := I.list ha
  obtain ⟨its2, r2, ⟨⟨cls2, dd2, data2, sl2⟩, n2, ho2, hc2, _, hd2⟩, z2⟩ := I.list hb
  simp only at hc hd hc2 hd2
  subst hc hd hc2 hd2
  have e1 := r1.length
  have e2 := r2.length
  refine concat_meets ⟨_, ho, rfl⟩ ⟨_, ho2, rfl⟩ noFill_list_add seq_list_add PySem.F.slot_list_add PySem.F.entry_list_add (PySem.F.args_list_add_2 _ _)
    (list_addW a b its.toArray its2.toArray n n2 dd dd2 sl sl2 (by rw [List.size_toArray, List.size_toArray]; omega)) ⟨ho, ho2, ?_⟩
  have ea : its.toArray ++ its2.toArray = (its ++ its2).toArray := by simp
  rw [ea]
  exact ⟨.ref _, _, I.lnew (t' := s.toks) (r1.append r2) (by rw [List.length_append]; omega), rfl, q _ I.fresh⟩
theorem op_addA : OpR X (binaryOp .Add) (rAddA X.K) := (op_add.or op_catL).or op_catA
end

/-! ### ints -/
def subD : PyData → PyData → Rs PyData := iop fun i j => .ok (.int (i - j))
def mulD : PyData → PyData → Rs PyData := iop fun i j => if mulOk i j then .ok (.int (i * j)) else .stuck
def divD : PyData → PyData → Rs PyData := iop fun i j => if divOk i j then .ok (.int (i.fdiv j)) else .stuck
def modD : PyData → PyData → Rs PyData := iop fun i j => if j ≠ 0 then .ok (.int (i.fmod j)) else .stuck
def powD : PyData → PyData → Rs PyData := iop fun i j => if powOk i j then .ok (.int (i ^ j.toNat)) else .stuck
def ltD : PyData → PyData → Rs PyData := iop fun i j => .ok (.bool (decide (i < j)))
def leD : PyData → PyData → Rs PyData := iop fun i j => .ok (.bool (decide (i ≤ j)))
def gtD : PyData → PyData → Rs PyData := iop fun i j => .ok (.bool (decide (j < i)))
def geD : PyData → PyData → Rs PyData := iop fun i j => .ok (.bool (decide (j ≤ i)))
theorem opsem_if {c : Pc} {C : Int → Int → Prop} [∀ i j, Decidable (C i j)] {g : Int → Int → Int} : OpSem c (rI C fun i j => .int (g i j)) (iop fun i j => if C i j then .ok (.int (g i j)) else .stuck) (RS c) :=
  opsem_int (fun i j s h => by
    split at h
    · rename_i hc
      cases h
      exact ⟨hc, fun _ => .int _⟩
    · cases h) (fun i j x h => by split at h <;> cases h)
section
variable {c : Pc}
theorem opsem_sub : OpSem c (rI0 fun i j => .int (i - j)) subD (RS c) := opsem_int0 fun _ _ _ => .int _
theorem opsem_mul : OpSem c (rI mulOk fun i j => .int (i * j)) mulD (RS c) := opsem_if
theorem opsem_div : OpSem c (rI divOk fun i j => .int (i.fdiv j)) divD (RS c) := opsem_if
theorem opsem_mod : OpSem c (rI (fun _ j => j ≠ 0) fun i j => .int (i.fmod j)) modD (RS c) := opsem_if (C := fun _ j => j ≠ 0)
theorem opsem_pow : OpSem c (rI CPow fun i j => .int (i ^ j.toNat)) powD (RS c) := opsem_if (C := powOk)
theorem opsem_lt : OpSem c (rI0 fun i j => .bl (decide (i < j))) ltD (RS c) := opsem_int0 fun _ _ _ => .bl _
theorem opsem_le : OpSem c (rI0 fun i j => .bl (decide (i ≤ j))) leD (RS c) := opsem_int0 fun _ _ _ => .bl _
theorem opsem_gt : OpSem c (rI0 fun i j => .bl (decide (j < i))) gtD (RS c) := opsem_int0 fun _ _ _ => .bl _
theorem opsem_ge : OpSem c (rI0 fun i j => .bl (decide (j ≤ i))) geD (RS c) := opsem_int0 fun _ _ _ => .bl _
end
/-! ### == and in, of data -/
def eqD (a b : PyData) : Rs PyData := if SeqAt.shaped a = true ∧ SeqAt.shaped b = true then .ok (.bool (PyData.eqv a b)) else .stuck
def neD (a b : PyData) : Rs PyData := if SeqAt.shaped a = true ∧ SeqAt.shaped b = true then .ok (.bool (!PyData.eqv a b)) else .stuck
def inD (a b : PyData) : Rs PyData := match b with
  | .list ds => if SeqAt.shaped a = true ∧ SeqAt.shaped (.list ds) = true then .ok (.bool (ds.any fun z => PyData.eqv z a)) else .stuck
  | _ => .stuck
def ninD (a b : PyData) : Rs PyData := match b with
  | .list ds => if SeqAt.shaped a = true ∧ SeqAt.shaped (.list ds) = true then .ok (.bool (!ds.any fun z => PyData.eqv z a)) else .stuck
  | _ => .stuck
def isNo : PyData → Bool
  | .none => true
  | _ => false
def isND (a b : PyData) : Rs PyData := match b with
  | .none => .ok (.bool (isNo a))
  | _ => .stuck
def notND (a b : PyData) : Rs PyData := match b with
  | .none => .ok (.bool (!isNo a))
  | _ => .stuck
section
variable {c : Pc}
theorem opsem_eq : OpSem c (rEqD c.K) eqD (RS c) where
  go := fun G H x y a b s e da db hs Q q => by
    unfold eqD at hs
    split at hs
    · rename_i h
      cases hs
      exact ⟨a, b, db_h e da, db_h e db, h.1, h.2, q G H _ (Nx.refl e) (.bl _)⟩
    · cases hs
  ne := fun a b x h => by unfold eqD at h; split at h <;> cases h
theorem opsem_ne : OpSem c (rNeD c.K) neD (RS c) where
  go := fun G H x y a b s e da db hs Q q => by
    unfold neD at hs
    split at hs
    · rename_i h
      cases hs
      exact ⟨a, b, db_h e da, db_h e db, h.1, h.2, q G H _ (Nx.refl e) (.bl _)⟩
    · cases hs
  ne := fun a b x h => by unfold neD at h; split at h <;> cases h
theorem opsem_in : OpSem c (rInD c.K) inD (RS c) where
  go := fun G H x y a b s e da db hs Q q => by
    unfold inD at hs
    split at hs
    · rename_i ds
      split at hs
      · rename_i h
        cases hs
        exact ⟨a, ds, db_h e da, db_h e db, h.1, h.2, q G H _ (Nx.refl e) (.bl _)⟩
      · cases hs
    · cases hs
  ne := fun a b x h => by
    unfold inD at h
    split at h
    · split at h <;> cases h
    · cases h
theorem opsem_nin : OpSem c (rNotInD c.K) ninD (RS c) where
  go := fun G H x y a b s e da db hs Q q => by
    unfold ninD at hs
    split at hs
    · rename_i ds
      split at hs
      · rename_i h
        cases hs
        exact ⟨a, ds, db_h e da, db_h e db, h.1, h.2, q G H _ (Nx.refl e) (.bl _)⟩
      · cases hs
    · cases hs
  ne := fun a b x h => by
    unfold ninD at h
    split at h
    · split at h <;> cases h
    · cases h
theorem db_isNo {K : PySem.W.Frag} {G H : Hp} {v : V} {d : PyData} (h : Db K G H v d) : decide (v = .non) = isNo d := by
  rcases h with h | ⟨a, xs, ds, rfl, rfl, _⟩
  · cases h <;> rfl
  · rfl
theorem opsem_isN : OpSem c (fun x y H Q => y = .non ∧ Q (.bl (decide (x = .non))) H) isND (RS c) where
  go := fun G H x y a b s e da db hs Q q => by
    unfold isND at hs
    split at hs
    · cases hs
      exact ⟨db_non db, q G H _ (Nx.refl e) (by rw [db_isNo da]; exact .bl _)⟩
    · cases hs
  ne := fun a b x h => by unfold isND at h; split at h <;> cases h
theorem opsem_notN : OpSem c (fun x y H Q => y = .non ∧ Q (.bl (!decide (x = .non))) H) notND (RS c) where
  go := fun G H x y a b s e da db hs Q q => by
    unfold notND at hs
    split at hs
    · cases hs
      exact ⟨db_non db, q G H _ (Nx.refl e) (by rw [db_isNo da]; exact .bl _)⟩
    · cases hs
  ne := fun a b x h => by unfold notND at h; split at h <;> cases h
end

/-! ### tests -/
def boolOf : PyData → Rs Bool
  | .bool b => .ok b
  | _ => .stuck
def fB (F : Env → Rs PyData) : Env → Rs Bool := fun ρ => F ρ >>= boolOf
theorem sem_test {c : Pc} {E : XK} {t : TE} {F : Env → Rs PyData} (h : SemG c E t F (RS c)) : SemG c E (fun σ H Q => t σ H fun x H1 => ∃ k, x = .bl k ∧ Q k H1) (fB F) RT := by
  intro G H ρ σ rep hns Q ok er
  refine h.use rep hns er fun a ea e1 G' H' v n _ q hk _ => ?_
  cases a with
  | bool b => exact ⟨b, Dp.bl_v q, ok b e1 G' H' b n rfl⟩
  | none => exact absurd rfl hk
  | int i => exact absurd rfl hk
  | str i => exact absurd rfl hk
  | list i => exact absurd rfl hk
  | tuple i => exact absurd rfl hk
  | dict i => exact absurd rfl hk
def fNot (F : Env → Rs Bool) : Env → Rs Bool := fun ρ => F ρ >>= fun b => .ok (!b)
def fAnd (F G : Env → Rs Bool) : Env → Rs Bool := fun ρ => F ρ >>= fun b => if b = true then G ρ else .ok false
def fOr (F G : Env → Rs Bool) : Env → Rs Bool := fun ρ => F ρ >>= fun b => if b = true then .ok true else G ρ
structure JW (ca : Nat → Addr) (X : Cx) (E : XK) (e : Expr) (t : TT) (F : Env → Rs Bool) : Prop where
  pw : PW X e t
  sem : SemG ⟨X.K, ca⟩ E t F RT
section
variable {ca : Nat → Addr} {X : Cx} {E : XK} {a b e : Expr} {ta tb : TT} {te tf : TE} {pos : Pos} {rest : List Expr}
theorem jt_val {F : Env → Rs PyData} (h : JS ca X E e te F) (he : ∀ whole, isTrue e X.env whole = (do let v ← whole; standAt e.pos; holding [v] (truthy v)) := by intro _; rfl) : JT ca X E e (tB te) (fB F) :=
  ⟨pt_val h.pe he, sem_test h.sem⟩
theorem jt_not {F : Env → Rs Bool} (h : JT ca X E a ta F) : JT ca X E (.UnaryOp .Not a pos) (tNot ta) (fNot F) :=
  ⟨pt_not h.pt, fun G H ρ σ rep hns Q ok er => h.sem.use rep hns er fun x ea e1 G' H' v n _ q hk _ => by
    cases q
    exact ok _ e1 G' H' _ n rfl⟩
theorem jw_and1 {F : Env → Rs Bool} (h : JT ca X E a ta F) : JW ca X E (.BoolOp .And [a] pos) ta F := ⟨pw_and1 h.pt, h.sem⟩
theorem jw_or1 {F : Env → Rs Bool} (h : JT ca X E a ta F) : JW ca X E (.BoolOp .Or [a] pos) ta F := ⟨pw_or1 h.pt, h.sem⟩
theorem jw_and {F F' : Env → Rs Bool} (h : JT ca X E a ta F) (h' : JW ca X E (.BoolOp .And (b :: rest) pos) tb F') : JW ca X E (.BoolOp .And (a :: b :: rest) pos) (tAnd ta tb) (fAnd F F') :=
  ⟨pw_and h.pt h'.pw, fun G H ρ σ rep hns Q ok er => h.sem.use rep hns er fun x ea e1 G' H' v n r q hk er' => by
    cases q
    cases x with
    | true =>
      show tb σ H' Q
      refine h'.sem G' H' ρ σ r hk Q (fun y ey G2 H2 u n2 q2 => ok y (e1.trans ey) G2 H2 u (n.trans n2) q2) er'
    | false =>
      show Q false H'
      exact ok false e1 G' H' false n rfl⟩
theorem jw_or {F F' : Env → Rs Bool} (h : JT ca X E a ta F) (h' : JW ca X E (.BoolOp .Or (b :: rest) pos) tb F') : JW ca X E (.BoolOp .Or (a :: b :: rest) pos) (tOr ta tb) (fOr F F') :=
  ⟨pw_or h.pt h'.pw, fun G H ρ σ rep hns Q ok er => h.sem.use rep hns er fun x ea e1 G' H' v n r q hk er' => by
    cases q
    cases x with
    | false =>
      show tb σ H' Q
      refine h'.sem G' H' ρ σ r hk Q (fun y ey G2 H2 u n2 q2 => ok y (e1.trans ey) G2 H2 u (n.trans n2) q2) er'
    | true =>
      show Q true H'
      exact ok true e1 G' H' true n rfl⟩
theorem jt_w {F : Env → Rs Bool} (h : JW ca X E a ta F) : JT ca X E a ta F := ⟨h.pw.pt, h.sem⟩
/-- as values -/
def fAndV (F G : Env → Rs PyData) : Env → Rs PyData := fun ρ => F ρ >>= fun a => boolOf a >>= fun b => if b = true then G ρ else .ok (.bool false)
def fOrV (F G : Env → Rs PyData) : Env → Rs PyData := fun ρ => F ρ >>= fun a => boolOf a >>= fun b => if b = true then .ok (.bool true) else G ρ
def fNotV (F : Env → Rs PyData) : Env → Rs PyData := fun ρ => F ρ >>= fun a => boolOf a >>= fun b => .ok (.bool (!b))
theorem boolOf_ok {a : PyData} {β : Type} {k : Bool → Rs β} (h : (boolOf a >>= k) ≠ .stuck) : ∃ b, a = .bool b := by
  cases a with
  | bool b => exact ⟨b, rfl⟩
  | none => exact absurd rfl h
  | int i => exact absurd rfl h
  | str i => exact absurd rfl h
  | list i => exact absurd rfl h
  | tuple i => exact absurd rfl h
  | dict i => exact absurd rfl h
theorem js_one {op : BoolOp} {F : Env → Rs PyData} (h : JS ca X E a te F) : JS ca X E (.BoolOp op [a] pos) te F := ⟨pe_one h.pe, h.sem⟩
theorem js_and {F F' : Env → Rs PyData} (h : JS ca X E a te F) (h' : JS ca X E (.BoolOp .And (b :: rest) pos) tf F') : JS ca X E (.BoolOp .And (a :: b :: rest) pos) (tAndV te tf) (fAndV F F') :=
  ⟨pe_and h.pe h'.pe, fun G H ρ σ rep hns Q ok er => h.sem.use rep hns er fun x ea e1 G' H' v n r q hk er' => by
    obtain ⟨k, rfl⟩ := boolOf_ok hk
    refine ⟨k, Dp.bl_v q, ?_⟩
    cases k with
    | true =>
      show tf σ H' Q
      exact h'.sem G' H' ρ σ r hk Q (fun y ey G2 H2 u n2 q2 => ok y (e1.trans ey) G2 H2 u (n.trans n2) q2) er'
    | false =>
      show Q (.bl false) H'
      exact ok (.bool false) e1 G' H' _ n (.bl _)⟩
theorem js_or {F F' : Env → Rs PyData} (h : JS ca X E a te F) (h' : JS ca X E (.BoolOp .Or (b :: rest) pos) tf F') : JS ca X E (.BoolOp .Or (a :: b :: rest) pos) (tOrV te tf) (fOrV F F') :=
  ⟨pe_or h.pe h'.pe, fun G H ρ σ rep hns Q ok er => h.sem.use rep hns er fun x ea e1 G' H' v n r q hk er' => by
    obtain ⟨k, rfl⟩ := boolOf_ok hk
    refine ⟨k, Dp.bl_v q, ?_⟩
    cases k with
    | false =>
      show tf σ H' Q
      exact h'.sem G' H' ρ σ r hk Q (fun y ey G2 H2 u n2 q2 => ok y (e1.trans ey) G2 H2 u (n.trans n2) q2) er'
    | true =>
      show Q (.bl true) H'
      exact ok (.bool true) e1 G' H' _ n (.bl _)⟩
theorem js_not {F : Env → Rs PyData} (h : JS ca X E a te F) : JS ca X E (.UnaryOp .Not a pos) (tNotV te) (fNotV F) :=
  ⟨pe_not h.pe, fun G H ρ σ rep hns Q ok er => h.sem.use rep hns er fun x ea e1 G' H' v n r q hk er' => by
    obtain ⟨k, rfl⟩ := boolOf_ok hk
    exact ⟨k, Dp.bl_v q, ok (.bool (!k)) e1 G' H' _ n (.bl _)⟩⟩
end

/-! ### the operators as judgements -/
section
variable {ca : Nat → Addr} {X : Cx} {E : XK} {a b : Expr} {ta tb : TE} {Fa Fb : Env → Rs PyData} {pos : Pos}
theorem js_bin {op : Operator} {r : R2} {f : PyData → PyData → Rs PyData} (ho : OpR X (binaryOp op) r) (hs : OpSem ⟨X.K, ca⟩ r f (RS ⟨X.K, ca⟩)) (ha : JB ca X E a ta Fa) (hb : JB ca X E b tb Fb) : JS ca X E (.BinOp a op b pos) (tOp r ta tb) (fOp f Fa Fb) :=
  ⟨pe_op ho ha.pe hb.pe, sem_op hs RS.mono ha.sem hb.sem⟩
theorem jv_add (ha : JB ca X E a ta Fa) (hb : JB ca X E b tb Fb) : JV ca X E (.BinOp a .Add b pos) (tOp (rAddA X.K) ta tb) (fOp addD Fa Fb) :=
  ⟨pe_op op_addA ha.pe hb.pe, sem_op opsem_add RV.mono' ha.sem hb.sem⟩
theorem js_sub (ha : JB ca X E a ta Fa) (hb : JB ca X E b tb Fb) : JS ca X E (.BinOp a .Sub b pos) (tOp (rI0 fun i j => .int (i - j)) ta tb) (fOp subD Fa Fb) := js_bin op_sub opsem_sub ha hb
theorem js_mul (ha : JB ca X E a ta Fa) (hb : JB ca X E b tb Fb) : JS ca X E (.BinOp a .Mult b pos) (tOp (rI mulOk fun i j => .int (i * j)) ta tb) (fOp mulD Fa Fb) := js_bin op_mulP opsem_mul ha hb
theorem js_div (ha : JB ca X E a ta Fa) (hb : JB ca X E b tb Fb) : JS ca X E (.BinOp a .FloorDiv b pos) (tOp (rI divOk fun i j => .int (i.fdiv j)) ta tb) (fOp divD Fa Fb) := js_bin op_divP opsem_div ha hb
theorem js_mod (ha : JB ca X E a ta Fa) (hb : JB ca X E b tb Fb) : JS ca X E (.BinOp a .Mod b pos) (tOp (rI (fun _ j => j ≠ 0) fun i j => .int (i.fmod j)) ta tb) (fOp modD Fa Fb) := js_bin op_modN opsem_mod ha hb
theorem js_pow (ha : JB ca X E a ta Fa) (hb : JB ca X E b tb Fb) : JS ca X E (.BinOp a .Pow b pos) (tOp (rI CPow fun i j => .int (i ^ j.toNat)) ta tb) (fOp powD Fa Fb) := js_bin op_pow opsem_pow ha hb
theorem js_cmp {op : CmpOp} {r : R2} {f : PyData → PyData → Rs PyData} (ho : OpR X (compareOp op) r) (hs : OpSem ⟨X.K, ca⟩ r f (RS ⟨X.K, ca⟩)) (hm : behindInMarks op b = false) (ha : JB ca X E a ta Fa) (hb : JB ca X E b tb Fb) : JS ca X E (.Compare a [op] [b] pos) (tOp r ta tb) (fOp f Fa Fb) :=
  ⟨pe_cmpR ho ha.pe hb.pe hm, sem_op hs RS.mono ha.sem hb.sem⟩
theorem jt_cmp {op : CmpOp} {r : R2} {f : PyData → PyData → Rs PyData} (ho : OpR X (compareOp op) r) (hs : OpSem ⟨X.K, ca⟩ r f (RS ⟨X.K, ca⟩)) (hm : behindInMarks op b = false) (ha : JB ca X E a ta Fa) (hb : JB ca X E b tb Fb) : JT ca X E (.Compare a [op] [b] pos) (tTest (tOp r ta tb)) (fB (fOp f Fa Fb)) :=
  ⟨pt_cmpR ho ha.pe hb.pe hm, sem_test (sem_op hs RS.mono ha.sem hb.sem)⟩
/-- -a -/
def negD : PyData → Rs PyData
  | .int i => .ok (.int (-i))
  | _ => .stuck
def fUn {α β : Type} (f : α → Rs β) (F : Env → Rs α) : Env → Rs β := fun ρ => F ρ >>= f
theorem js_neg (ha : JB ca X E a ta Fa) : JS ca X E (.UnaryOp .USub a pos) (tUn (rU fun i => .int (-i)) ta) (fUn negD Fa) :=
  ⟨pe_un un_neg ha.pe, fun G H ρ σ rep hns Q ok er => ha.sem.use rep hns er fun x ea e1 G' H' v n r q hk er' => by
    cases x with
    | int i => exact ⟨i, db_int q, ok _ e1 G' H' _ n (.int _)⟩
    | none => exact absurd rfl hk
    | bool i => exact absurd rfl hk
    | str i => exact absurd rfl hk
    | list i => exact absurd rfl hk
    | tuple i => exact absurd rfl hk
    | dict i => exact absurd rfl hk⟩
end
/-! ### arguments, displays -/
def fNil : Env → Rs (List PyData) := fun _ => .ok []
def fCons (F : Env → Rs PyData) (Fs : Env → Rs (List PyData)) : Env → Rs (List PyData) := fun ρ => F ρ >>= fun d => Fs ρ >>= fun ds => .ok (d :: ds)
def lstD (ds : List PyData) : Rs Sl := if ds.length ≤ lim then .ok (.ol ds) else .stuck
def tupD (ds : List PyData) : Rs PyData := if ds.length ≤ lim then .ok (.tuple ds) else .stuck
section
variable {ca : Nat → Addr} {X : Cx} {E : XK} {e : Expr} {es : List Expr} {te : TE} {t : TA} {F : Env → Rs PyData} {Fs : Env → Rs (List PyData)} {pos : Pos}
theorem ja_nil : JA ca X E [] tNil fNil := ⟨pa_nil, fun G H ρ σ rep hns Q ok er => ok [] rfl G H [] (Nx.refl rep.gh) .nil⟩
theorem ja_cons (h : JS ca X E e te F) (h' : JA ca X E es t Fs) (hs : starEach (e :: es) X.env = (false, eval e X.env) :: starEach es X.env := by rfl) : JA ca X E (e :: es) (tCons te t) (fCons F Fs) :=
  ⟨pa_cons h.pe h'.pa hs, fun G H ρ σ rep hns Q ok er => h.sem.use rep hns er fun x ea e1 G1 H1 v n1 r1 q1 hk1 er1 => h'.sem.use r1 hk1 er1 fun xs exs e2 G2 H2 vs n2 r2 q2 hk2 er2 =>
    ok (x :: xs) (e1.trans e2) G2 H2 _ (n1.trans n2) (.cons (Dp.ex n2.g q1) q2)⟩
theorem jv_lst (h : JA ca X E es t Fs) : JV ca X E (.List es pos) (tLst t) (fUn lstD Fs) :=
  ⟨pe_lst h.pa, fun G H ρ σ rep hns Q ok er => h.sem.use rep hns er fun x ea e1 G' H' v n r q hk er' => by
    by_cases hl : x.length ≤ lim
    · have e2 : lstD x = .ok (.ol x) := if_pos hl
      exact ⟨lim_le (by rw [DpAll.length q]; exact hl), fun p hp => ok (.ol x) (e1.trans e2) G' _ _ (n.trans (Nx.hid n.gh hp)) ⟨p, v, rfl, n.h.back hp, n.gh.back hp, upd_same, q⟩⟩
    · exact absurd (if_neg hl) hk⟩
theorem js_tup {x1} (h : JA ca X E es t Fs) : JS ca X E (.Tuple es x1 pos) (tTup t) (fUn tupD Fs) :=
  ⟨pe_tup h.pa, fun G H ρ σ rep hns Q ok er => h.sem.use rep hns er fun x ea e1 G' H' v n r q hk er' => by
    by_cases hl : x.length ≤ lim
    · have e2 : tupD x = .ok (.tuple x) := if_pos hl
      refine ⟨lim_le (by rw [DpAll.length q]; exact hl), fun p hp => ok (.tuple x) (e1.trans e2) (upd G' p (.tup v)) _ _ (n.trans (Nx.new n.gh hp)) (.tup (.inl (.inl upd_same)) (DpAll.ex (Ex.new (n.gh.back hp)) q))⟩
    · exact absurd (if_neg hl) hk⟩
end
end PF

namespace PF
open PySem L2

/-! ### items and slices -/
def getP (ds : List PyData) (i : Int) : Rs PyData := match atI ds i with
  | some d => .ok d
  | none => .stuck
def ixD (a b : PyData) : Rs PyData := match a, b with
  | .list ds, .int i => getP ds i
  | .tuple ds, .int i => getP ds i
  | _, _ => .stuck
theorem at_dp {K : PySem.W.Frag} {G : Hp} {xs : List V} {ds : List PyData} {i : Int} {d : PyData} (h : DpAll K G xs ds) (e : getP ds i = .ok d) : ∃ v, atI xs i = some v ∧ Dp K G v d := by
  unfold getP at e
  split at e
  · rename_i z hz
    cases e
    unfold atI at hz ⊢
    rw [DpAll.length h]
    cases hn : ixN ds.length i with
    | none => rw [hn] at hz; cases hz
    | some j =>
      rw [hn] at hz
      rw [Option.bind_some] at hz ⊢
      exact DpAll.getD h hz
  · cases e
theorem getP_ne {ds : List PyData} {i : Int} {x : Exn} : getP ds i ≠ .err x := by unfold getP; split <;> exact fun h => nomatch h
theorem opsem_ix {c : Pc} : OpSem c (rIx c.K) ixD (RS c) where
  go := fun G H x y a b s e da db hs Q q => by
    unfold ixD at hs
    split at hs
    · obtain ⟨p, xs, rfl, hx, ax⟩ := db_list e da
      obtain ⟨v, hv, dv⟩ := at_dp ax hs
      exact .inl ⟨p, xs, _, v, rfl, db_int db, hx, hv, q G H v (Nx.refl e) dv⟩
    · obtain ⟨p, xs, rfl, hx, ax⟩ := db_tup da
      obtain ⟨v, hv, dv⟩ := at_dp ax hs
      exact .inr (.inl ⟨p, xs, _, v, rfl, db_int db, Ex.sqt e hx, hv, q G H v (Nx.refl e) dv⟩)
    · cases hs
  ne := fun a b x h => by
    unfold ixD at h
    split at h
    · exact getP_ne h
    · exact getP_ne h
    · cases h
def cutP (ds : List PyData) (lo hi : Option Int) : List PyData := (ds.drop (HT.sIx ds.length 0 lo)).take (HT.sIx ds.length ds.length hi - HT.sIx ds.length 0 lo)
theorem cut_dp {K : PySem.W.Frag} {G : Hp} {xs : List V} {ds : List PyData} (lo hi : Option Int) (h : DpAll K G xs ds) : DpAll K G (cutV xs lo hi) (cutP ds lo hi) := by
  unfold cutV cutP
  rw [DpAll.length h]
  exact DpAll.take _ (DpAll.drop _ h)
def slD (a : PyData) (lo hi : Option Int) : Rs Sl := match a with
  | .list ds => .ok (.ol (cutP ds lo hi))
  | .tuple ds => .ok (.sh (.tuple (cutP ds lo hi)))
  | _ => .stuck
def rSlAll (K : PySem.W.Frag) : V → Option Int → Option Int → Hp → VK → Prop := fun x lo hi H Q => rSlL K x lo hi H Q ∨ rSlA K x lo hi H Q
def fSl (F : Env → Rs PyData) (Fl Fh : Env → Rs (Option Int)) : Env → Rs Sl := fun ρ => F ρ >>= fun a => Fl ρ >>= fun l => Fh ρ >>= fun h => slD a l h
def fNone : Env → Rs (Option Int) := fun _ => .ok none
def fSome (F : Env → Rs PyData) : Env → Rs (Option Int) := fun ρ => F ρ >>= fun d => intOf d >>= fun i => .ok (some i)
theorem intOf_ok {a : PyData} {β : Type} {k : Int → Rs β} (h : (intOf a >>= k) ≠ .stuck) : ∃ b, a = .int b := by
  cases a with
  | int b => exact ⟨b, rfl⟩
  | none => exact absurd rfl h
  | bool i => exact absurd rfl h
  | str i => exact absurd rfl h
  | list i => exact absurd rfl h
  | tuple i => exact absurd rfl h
  | dict i => exact absurd rfl h
section
variable {ca : Nat → Addr} {X : Cx} {E : XK} {a b : Expr} {ta tb : TE} {Fa Fb : Env → Rs PyData} {pos p2 : Pos} {lo hi : Option Expr} {tl th : TO} {Fl Fh : Env → Rs (Option Int)}
theorem js_ix (ha : JB ca X E a ta Fa) (hb : JB ca X E b tb Fb) (hs : PlainIx b := by exact fun _ _ => rfl) : JS ca X E (.Subscript a b pos) (tOp (rIx X.K) ta tb) (fOp ixD Fa Fb) :=
  ⟨pe_ix ix_seq ha.pe hb.pe hs, sem_op opsem_ix RS.mono ha.sem hb.sem⟩
theorem jo_none : JO ca X E none tNoPart fNone := ⟨po_none, fun G H ρ σ rep hns Q ok er => ok none rfl G H none (Nx.refl rep.gh) rfl⟩
theorem jo_some (ha : JB ca X E a ta Fa) : JO ca X E (some a) (tPart ta) (fSome Fa) :=
  ⟨po_some ha.pe, fun G H ρ σ rep hns Q ok er => ha.sem.use rep hns er fun x ea e1 G' H' v n r q hk er' => by
    obtain ⟨i, rfl⟩ := intOf_ok hk
    exact ⟨i, db_int q, ok (some i) e1 G' H' _ n rfl⟩⟩
theorem jv_slice (ha : JB ca X E a ta Fa) (hl : JO ca X E lo tl Fl) (hh : JO ca X E hi th Fh) : JV ca X E (.Subscript a (.Slice lo hi none p2) pos) (tSl (rSlAll X.K) ta tl th) (fSl Fa Fl Fh) :=
  ⟨pe_slice (sl_list.or sl_tupA) ha.pe hl.po hh.po, fun G H ρ σ rep hns Q ok er => ha.sem.use rep hns er fun x ea e1 G1 H1 v n1 r1 q1 hk1 er1 => hl.sem.use r1 hk1 er1 fun l el e2 G2 H2 vl n2 r2 q2 hk2 er2 => hh.sem.use r2 hk2 er2 fun h eh e3 G3 H3 vh n3 r3 q3 hk3 er3 => by
    cases q2
    cases q3
    have q := db_nx (n2.trans n3) q1
    have ee := (e1.trans e2).trans e3
    have nn := (n1.trans n2).trans n3
    cases x with
    | list ds =>
      obtain ⟨p, xs, rfl, hx, ax⟩ := db_list n3.gh q
      exact .inl ⟨p, xs, rfl, hx, fun p' hp => ok _ ee G3 _ _ (nn.trans (Nx.hid n3.gh hp)) ⟨p', _, rfl, nn.h.back hp, n3.gh.back hp, upd_same, cut_dp _ _ ax⟩⟩
    | tuple ds =>
      obtain ⟨p, xs, rfl, hx, ax⟩ := db_tup q
      have le := DpAll.length ax
      refine .inr ⟨p, xs, rfl, Ex.sqt n3.gh hx, fun hw => ?_, fun hw p' hp => ok _ ee (upd G3 p' (.tup (cutV xs l h))) _ _ (nn.trans (Nx.new n3.gh hp)) (.tup (.inl (.inl upd_same)) (DpAll.ex (Ex.new (n3.gh.back hp)) (cut_dp _ _ ax)))⟩
      refine ok _ ee G3 H3 _ nn ?_
      have e0 : cutP ds l h = ds := by
        rw [le] at hw
        unfold cutP
        rw [hw.1, hw.2, List.drop_zero, Nat.sub_zero, List.take_length]
      rw [e0]
      exact .tup hx ax
    | none => exact absurd rfl hk3
    | bool i => exact absurd rfl hk3
    | int i => exact absurd rfl hk3
    | str i => exact absurd rfl hk3
    | dict i => exact absurd rfl hk3⟩
end

/-! ### calls of built-ins by values -/
structure CallSem {α : Type} (c : Pc) (r : List V → Hp → VK → Prop) (f : PyData → Rs α) (R : Rel V α) : Prop where
  go : ∀ G H x a s, Ex G H → Db c.K G H x a → f a = .ok s → ∀ Q : VK, (∀ G' H' v, Nx G H G' H' → R G H G' H' v s → Q v H') → r [x] H Q
  ne : ∀ a x, f a ≠ .err x
theorem sem_call1 {α : Type} {c : Pc} {E : XK} {r : List V → Hp → VK → Prop} {f : PyData → Rs α} {R : Rel V α} {ta : TE} {Fa : Env → Rs PyData} (hr : CallSem c r f R)
    (hR : ∀ G H G1 H1 G' H' v s, Nx G H G1 H1 → R G1 H1 G' H' v s → R G H G' H' v s) (ha : SemG c E ta Fa (RB c)) : SemG c E (tCB r (tCons ta tNil)) (fUn f Fa) R := by
  intro G H ρ σ rep hns Q ok er
  refine ha.use rep hns er fun a ea e1 G1 H1 x n1 r1 q1 h1 er1 => ?_
  cases hf : f a with
  | stuck => exact absurd hf h1
  | err z => exact absurd hf (hr.ne a z)
  | ok s =>
    refine hr.go G1 H1 x a s n1.gh q1 hf Q fun G' H' v n3 q3 => ?_
    refine ok s ?_ G' H' v (n1.trans n3) (hR _ _ _ _ _ _ _ _ n1 q3)
    unfold fUn
    rw [e1, hf]
structure CallSem2 {α : Type} (c : Pc) (r : List V → Hp → VK → Prop) (f : PyData → PyData → Rs α) (R : Rel V α) : Prop where
  go : ∀ G H x y a b s, Ex G H → Db c.K G H x a → Db c.K G H y b → f a b = .ok s → ∀ Q : VK, (∀ G' H' v, Nx G H G' H' → R G H G' H' v s → Q v H') → r [x, y] H Q
  ne : ∀ a b x, f a b ≠ .err x
theorem sem_call2 {α : Type} {c : Pc} {E : XK} {r : List V → Hp → VK → Prop} {f : PyData → PyData → Rs α} {R : Rel V α} {ta tb : TE} {Fa Fb : Env → Rs PyData} (hr : CallSem2 c r f R)
    (hR : ∀ G H G1 H1 G' H' v s, Nx G H G1 H1 → R G1 H1 G' H' v s → R G H G' H' v s) (ha : SemG c E ta Fa (RB c)) (hb : SemG c E tb Fb (RB c)) : SemG c E (tCB r (tCons ta (tCons tb tNil))) (fOp f Fa Fb) R := by
  intro G H ρ σ rep hns Q ok er
  refine ha.use rep hns er fun a ea e1 G1 H1 x n1 r1 q1 h1 er1 => ?_
  refine hb.use r1 h1 er1 fun b eb e2 G2 H2 y n2 r2 q2 h2 er2 => ?_
  cases hf : f a b with
  | stuck => exact absurd hf h2
  | err z => exact absurd hf (hr.ne a b z)
  | ok s =>
    refine hr.go G2 H2 x y a b s n2.gh (db_nx n2 q1) q2 hf Q fun G' H' v n3 q3 => ?_
    refine ok s ?_ G' H' v ((n1.trans n2).trans n3) (hR _ _ _ _ _ _ _ _ (n1.trans n2) q3)
    unfold fOp
    rw [e1, e2, hf]
def lenD : PyData → Rs PyData
  | .list ds => .ok (.int ds.length)
  | .tuple ds => .ok (.int ds.length)
  | _ => .stuck
def absD : PyData → Rs PyData
  | .int i => .ok (.int (if i < 0 then -i else i))
  | _ => .stuck
def int1D : PyData → Rs PyData
  | .int i => .ok (.int i)
  | .bool b => .ok (.int (if b then 1 else 0))
  | _ => .stuck
def listD : PyData → Rs Sl
  | .list ds => .ok (.ol ds)
  | .tuple ds => .ok (.ol ds)
  | _ => .stuck
def tupleD : PyData → Rs PyData
  | .list ds => .ok (.tuple ds)
  | .tuple ds => .ok (.tuple ds)
  | _ => .stuck
def min2D : PyData → PyData → Rs PyData := iop fun i j => .ok (.int (if j < i then j else i))
def max2D : PyData → PyData → Rs PyData := iop fun i j => .ok (.int (if j > i then j else i))
section
variable {c : Pc}
theorem callsem_len : CallSem c (fun xs H Q => ∃ p ys, xs = [.ref p] ∧ (SqL c.K H p ys ∨ SqT c.K H p ys) ∧ Q (.int ys.length) H) lenD (RS c) where
  go := fun G H x a s e da hs Q q => by
    unfold lenD at hs
    split at hs
    · cases hs
      obtain ⟨p, xs, rfl, hx, ax⟩ := db_list e da
      exact ⟨p, xs, rfl, .inl hx, q G H _ (Nx.refl e) (by rw [DpAll.length ax]; exact .int _)⟩
    · cases hs
      obtain ⟨p, xs, rfl, hx, ax⟩ := db_tup da
      exact ⟨p, xs, rfl, .inr (Ex.sqt e hx), q G H _ (Nx.refl e) (by rw [DpAll.length ax]; exact .int _)⟩
    · cases hs
  ne := fun a x h => by unfold lenD at h; split at h <;> cases h
theorem callsem_abs : CallSem c (fun xs H Q => ∃ i, xs = [.int i] ∧ Q (.int (if i < 0 then -i else i)) H) absD (RS c) where
  go := fun G H x a s e da hs Q q => by
    unfold absD at hs
    split at hs
    · cases hs
      exact ⟨_, by rw [db_int da], q G H _ (Nx.refl e) (.int _)⟩
    · cases hs
  ne := fun a x h => by unfold absD at h; split at h <;> cases h
theorem callsem_int : CallSem c (fun xs H Q => (∃ i, xs = [.int i] ∧ Q (.int i) H) ∨ ∃ k, xs = [.bl k] ∧ Q (.int (if k then 1 else 0)) H) int1D (RS c) where
  go := fun G H x a s e da hs Q q => by
    unfold int1D at hs
    split at hs
    · cases hs
      exact .inl ⟨_, by rw [db_int da], q G H _ (Nx.refl e) (.int _)⟩
    · cases hs
      exact .inr ⟨_, by rw [db_bl da], q G H _ (Nx.refl e) (.int _)⟩
    · cases hs
  ne := fun a x h => by unfold int1D at h; split at h <;> cases h
theorem callsem_list : CallSem c (fun xs H Q => ∃ p ys, xs = [.ref p] ∧ (SqL c.K H p ys ∨ SqT c.K H p ys) ∧ ∀ l, H l = none → Q (.ref l) (upd H l (.lst ys))) listD (RV c) where
  go := fun G H x a s e da hs Q q => by
    unfold listD at hs
    split at hs
    · cases hs
      obtain ⟨p, xs, rfl, hx, ax⟩ := db_list e da
      exact ⟨p, xs, rfl, .inl hx, fun l hl => q G _ _ (Nx.hid e hl) ⟨l, xs, rfl, hl, e.back hl, upd_same, ax⟩⟩
    · cases hs
      obtain ⟨p, xs, rfl, hx, ax⟩ := db_tup da
      exact ⟨p, xs, rfl, .inr (Ex.sqt e hx), fun l hl => q G _ _ (Nx.hid e hl) ⟨l, xs, rfl, hl, e.back hl, upd_same, ax⟩⟩
    · cases hs
  ne := fun a x h => by unfold listD at h; split at h <;> cases h
theorem callsem_tuple : CallSem c (fun xs H Q => ∃ p ys, xs = [.ref p] ∧ ((SqL c.K H p ys ∧ ∀ l, H l = none → Q (.ref l) (upd H l (.tup ys))) ∨ (SqT c.K H p ys ∧ Q (.ref p) H))) tupleD (RS c) where
  go := fun G H x a s e da hs Q q => by
    unfold tupleD at hs
    split at hs
    · cases hs
      obtain ⟨p, xs, rfl, hx, ax⟩ := db_list e da
      exact ⟨p, xs, rfl, .inl ⟨hx, fun l hl => q _ _ _ (Nx.new e hl) (.tup (.inl (.inl upd_same)) (DpAll.ex (Ex.new (e.back hl)) ax))⟩⟩
    · cases hs
      obtain ⟨p, xs, rfl, hx, ax⟩ := db_tup da
      exact ⟨p, xs, rfl, .inr ⟨Ex.sqt e hx, q G H _ (Nx.refl e) (.tup hx ax)⟩⟩
    · cases hs
  ne := fun a x h => by unfold tupleD at h; split at h <;> cases h
theorem callsem_min : CallSem2 c (fun xs H Q => ∃ i j, xs = [.int i, .int j] ∧ Q (.int (if j < i then j else i)) H) min2D (RS c) where
  go := fun G H x y a b s e da db hs Q q => by
    obtain ⟨i, j, rfl, rfl, hs⟩ := iop_ok hs
    cases hs
    exact ⟨i, j, by rw [db_int da, db_int db], q G H _ (Nx.refl e) (.int _)⟩
  ne := iop_ne fun _ _ _ h => nomatch h
theorem callsem_max : CallSem2 c (fun xs H Q => ∃ i j, xs = [.int i, .int j] ∧ Q (.int (if j > i then j else i)) H) max2D (RS c) where
  go := fun G H x y a b s e da db hs Q q => by
    obtain ⟨i, j, rfl, rfl, hs⟩ := iop_ok hs
    cases hs
    exact ⟨i, j, by rw [db_int da, db_int db], q G H _ (Nx.refl e) (.int _)⟩
  ne := iop_ne fun _ _ _ h => nomatch h
end
/-- sum of a list of ints -/
def intsOf : List PyData → Rs (List Int)
  | [] => .ok []
  | d :: ds => intOf d >>= fun i => intsOf ds >>= fun is => .ok (i :: is)
def sumD : PyData → Rs PyData
  | .list ds => intsOf ds >>= fun is => .ok (.int is.sum)
  | _ => .stuck
theorem intOf_eq {d : PyData} {i : Int} (h : intOf d = .ok i) : d = .int i := by
  unfold intOf at h
  split at h <;> cases h
  rfl
theorem intsOf_ne : ∀ (ds : List PyData) (x : Exn), intsOf ds ≠ .err x
  | [], x, h => by cases h
  | d :: ds, x, h => by
    cases hd : intOf d with
    | stuck => rw [show intsOf (d :: ds) = (intOf d >>= fun i => intsOf ds >>= fun is => .ok (i :: is)) from rfl, hd] at h; cases h
    | err y => unfold intOf at hd; split at hd <;> cases hd
    | ok i =>
      rw [show intsOf (d :: ds) = (intOf d >>= fun i => intsOf ds >>= fun is => .ok (i :: is)) from rfl, hd] at h
      cases hs : intsOf ds with
      | stuck => rw [ok_bind, hs] at h; cases h
      | err y => exact intsOf_ne ds y hs
      | ok is => rw [ok_bind, hs] at h; cases h
theorem intsOf_eq : ∀ {ds : List PyData} {is : List Int}, intsOf ds = .ok is → ds = is.map .int
  | [], is, h => by cases h; rfl
  | d :: ds, is, h => by
    rw [show intsOf (d :: ds) = (intOf d >>= fun i => intsOf ds >>= fun is => .ok (i :: is)) from rfl] at h
    cases hd : intOf d with
    | stuck => rw [hd] at h; cases h
    | err y => rw [hd] at h; cases h
    | ok i =>
      rw [hd, ok_bind] at h
      cases hs : intsOf ds with
      | stuck => rw [hs] at h; cases h
      | err y => rw [hs] at h; cases h
      | ok js =>
        rw [hs, ok_bind] at h
        cases h
        rw [intOf_eq hd, intsOf_eq hs]
        rfl
theorem dpall_ints {K : PySem.W.Frag} {G : Hp} : ∀ {xs : List V} {is : List Int}, DpAll K G xs (is.map .int) → xs = is.map .int
  | _, [], h => by cases h; rfl
  | _, i :: is, h => by
    cases h with
    | cons h a => rw [Dp.int_v h, dpall_ints a]; rfl
theorem callsem_sum {c : Pc} : CallSem c (rSum c.K) sumD (RS c) where
  go := fun G H x a s e da hs Q q => by
    unfold sumD at hs
    split at hs
    · rename_i ds
      cases hi : intsOf ds with
      | stuck => rw [hi] at hs; cases hs
      | err y => rw [hi] at hs; cases hs
      | ok is =>
        rw [hi, ok_bind] at hs
        cases hs
        obtain ⟨p, xs, rfl, hx, ax⟩ := db_list e da
        rw [intsOf_eq hi] at ax
        rw [dpall_ints ax] at hx
        exact ⟨p, is, rfl, hx, q G H _ (Nx.refl e) (.int _)⟩
    · cases hs
  ne := fun a x h => by
    unfold sumD at h
    split at h
    · rename_i ds
      cases hi : intsOf ds with
      | stuck => rw [hi] at h; cases h
      | err y => exact intsOf_ne ds y hi
      | ok is => rw [hi] at h; cases h
    · cases h
/-! ### the class of a value -/
def tyN : PyData → String
  | .none => "NoneType"
  | .bool _ => "bool"
  | .int _ => "int"
  | .str _ => "str"
  | .list _ => "list"
  | .tuple _ => "tuple"
  | .dict _ => "dict"
theorem db_ty {K : PySem.W.Frag} {G H : Hp} {v : V} {d : PyData} (e : Ex G H) (h : Db K G H v d) : TyX K H v (.type (tyN d)) := by
  have h := db_h e h
  cases h with
  | non => exact .base .non
  | bl b => exact .base (.bl b)
  | int i => exact .base (.int i)
  | str x => exact .base (.str x)
  | lst hx a =>
    rcases hx with (h | ⟨o, h⟩) | ⟨o, its, n, h, hc, _⟩
    · exact .base (.lst h)
    · exact .base (.frz h)
    · exact .kList h hc
  | tup hx a =>
    rcases hx with (h | ⟨o, h⟩) | ⟨o, its, n, h, hc, _⟩
    · exact .base (.tup h)
    · exact .fTuple h
    · exact .kTuple h hc
def isiD (T : String) (d : PyData) : Rs PyData := match kitB (tyN d) T with
  | some b => .ok (.bool b)
  | none => .stuck
theorem kit_int (d : PyData) : isiD "int" d = .ok (.bool (match d with | .int _ => true | .bool _ => true | _ => false)) := by cases d <;> rfl
theorem kit_bool (d : PyData) : isiD "bool" d = .ok (.bool (match d with | .bool _ => true | _ => false)) := by cases d <;> rfl
theorem kit_list (d : PyData) : isiD "list" d = .ok (.bool (match d with | .list _ => true | _ => false)) := by cases d <;> rfl
theorem kit_tuple (d : PyData) : isiD "tuple" d = .ok (.bool (match d with | .tuple _ => true | _ => false)) := by cases d <;> rfl
end PF

namespace PF
open PySem L2

/-! ### statements -/
inductive Out where
  | nx (ρ : Env)
  | rt (s : Sl)
def SemP (c : Pc) (E : XK) (t : TS) (F : Env → Rs Out) : Prop :=
  ∀ (G0 H0 G H : Hp) (ρ : Env) (σ : L2.St), Rep c G H ρ σ → Ent G0 H0 G H ρ σ → F ρ ≠ .stuck → ∀ D : Ends,
    (∀ ρ', F ρ = .ok (.nx ρ') → ∀ G' H' σ', Rep c G' H' ρ' σ' → Ent G0 H0 G' H' ρ' σ' → D.nx σ' H') →
    (∀ s, F ρ = .ok (.rt s) → ∀ G' H' v, Nx G0 H0 G' H' → RV c G0 H0 G' H' v s → D.rt v H') → ErrP c E G0 H0 (F ρ) → t D σ H
structure JP (ca : Nat → Addr) (X : Cx) (E : XK) (st : Stmt) (t : TS) (F : Env → Rs Out) : Prop where
  ps : PS X st t
  sem : SemP ⟨X.K, ca⟩ E t F
structure JPs (ca : Nat → Addr) (X : Cx) (E : XK) (sts : List Stmt) (t : TS) (F : Env → Rs Out) : Prop where
  ps : PSs X sts t
  sem : SemP ⟨X.K, ca⟩ E t F
def after (r : Rs Out) (k : Env → Rs Out) : Rs Out := r >>= fun o => match o with
  | .nx ρ => k ρ
  | .rt s => .ok (.rt s)
theorem after_nx {ρ : Env} {k : Env → Rs Out} : after (.ok (.nx ρ)) k = k ρ := rfl
theorem after_rt {s : Sl} {k : Env → Rs Out} : after (.ok (.rt s)) k = .ok (.rt s) := rfl
/-- a statement, what follows is k -/
theorem SemP.use {c : Pc} {E : XK} {t : TS} {F : Env → Rs Out} (h : SemP c E t F) {k : Env → Rs Out} {G0 H0 G H : Hp} {ρ : Env} {σ : L2.St} (rep : Rep c G H ρ σ) (en : Ent G0 H0 G H ρ σ) (hns : after (F ρ) k ≠ .stuck) {D : Ends}
    (go : ∀ ρ', F ρ = .ok (.nx ρ') → after (F ρ) k = k ρ' → ∀ G' H' σ', Rep c G' H' ρ' σ' → Ent G0 H0 G' H' ρ' σ' → D.nx σ' H')
    (rt : ∀ s, after (F ρ) k = .ok (.rt s) → ∀ G' H' v, Nx G0 H0 G' H' → RV c G0 H0 G' H' v s → D.rt v H') (er : ErrP c E G0 H0 (after (F ρ) k)) : t D σ H := by
  refine h G0 H0 G H ρ σ rep en (fun z => hns (by rw [z]; rfl)) D (fun ρ' e => go ρ' e (by rw [e]; rfl)) (fun s e => rt s (by rw [e]; rfl)) fun x e => er x (by rw [e]; rfl)
def fSeq (F G : Env → Rs Out) : Env → Rs Out := fun ρ => after (F ρ) G
def fSkip : Env → Rs Out := fun ρ => .ok (.nx ρ)
/-- a list of our own is shown from now on -/
def fzSl : Option Sl → Option Sl
  | some (.ol ds) => some (.sh (.list ds))
  | _ => none
def fz1 (i : Nat) (ρ : Env) : Env := match fzSl ρ[i]? with
  | some s => ρ.set i s
  | none => ρ
theorem fz_rep {c : Pc} {G0 H0 G H : Hp} {ρ : Env} {σ : L2.St} (i : Nat) (rep : Rep c G H ρ σ) (en : Ent G0 H0 G H ρ σ) : ∃ G', Rep c G' H (fz1 i ρ) σ ∧ Ent G0 H0 G' H (fz1 i ρ) σ := by
  unfold fz1
  cases hs : ρ[i]? with
  | none => exact ⟨G, rep, en⟩
  | some s =>
    cases s with
    | no => exact ⟨G, rep, en⟩
    | sh d => exact ⟨G, rep, en⟩
    | od kvs => exact ⟨G, rep, en⟩
    | exn x => exact ⟨G, rep, en⟩
    | ol ds =>
      show ∃ G', Rep c G' H (ρ.set i (.sh (.list ds))) σ ∧ Ent G0 H0 G' H (ρ.set i (.sh (.list ds))) σ
      obtain ⟨o, e1, p, xs, rfl, gp, hp, q⟩ := rep.sl i _ hs
      have h0 := en.own i _ p hs rfl e1
      have x : Ex G (upd G p (.lst xs)) := Ex.new gp
      have m : Nx G0 H0 (upd G p (.lst xs)) H := en.nx.show h0 hp gp
      have old : ∀ (j : Nat) u, (ρ.set i (.sh (.list ds)))[j]? = some u → u.own = true → j ≠ i ∧ ρ[j]? = some u := fun j u e hu => by
        rw [List.getElem?_set] at e
        by_cases hij : i = j
        · rw [if_pos hij] at e
          split at e <;> cases e
          cases hu
        · rw [if_neg hij] at e
          exact ⟨fun z => hij z.symm, e⟩
      refine ⟨upd G p (.lst xs), ⟨m.gh, by rw [List.length_set, rep.len], fun j u e => ?_, fun j k u u' r a1 a2 w1 w2 f1 f2 => ?_⟩, ⟨m, fun j u r a w f => ?_⟩⟩
      · rw [List.getElem?_set] at e
        by_cases hij : i = j
        · rw [if_pos hij] at e
          split at e
          · cases e
            rw [← hij]
            exact ⟨_, e1, _, rfl, .lst (.inl (.inl upd_same)) (DpAll.ex x q)⟩
          · cases e
        · rw [if_neg hij] at e
          obtain ⟨o, e2, q2⟩ := rep.sl j u e
          refine ⟨o, e2, ?_⟩
          have ne : ∀ b, o = some (.ref b) → u.own = true → b ≠ p := fun b eb hu z => by
            subst z
            rw [eb] at e2
            exact hij (rep.inj i j _ u b hs e rfl hu e1 e2)
          cases u with
          | no => trivial
          | sh d => obtain ⟨v, z1, z2⟩ := q2; exact ⟨v, z1, Dp.ex x z2⟩
          | ol es => obtain ⟨b, ys, z1, g1, z2, z3⟩ := q2; exact ⟨b, ys, z1, by rw [upd_ne (ne b z1 rfl)]; exact g1, z2, DpAll.ex x z3⟩
          | od es => obtain ⟨b, ys, z1, g1, z2, z3⟩ := q2; exact ⟨b, ys, z1, by rw [upd_ne (ne b z1 rfl)]; exact g1, z2, KvOk.ex x z3⟩
          | exn y => obtain ⟨v, z1, z2⟩ := q2; exact ⟨v, z1, z2.ex x⟩
      · obtain ⟨_, b1⟩ := old j u a1 w1
        obtain ⟨_, b2⟩ := old k u' a2 w2
        exact rep.inj j k u u' r b1 b2 w1 w2 f1 f2
      · obtain ⟨_, b1⟩ := old j u a w
        exact en.own j u r b1 w f
/-- what a context is to be -/
structure CxOk (X : Cx) (E : XK) : Prop where
  calm : X.calm = true
  un : X.A.units + 200 < cLine
  nd : X.N.Nodup
  pas : PassesOwn (model X.prog X.w) X.A X.env X.xe
  call : Passes (L2.CX X.prog X.w) X E
  tk : Takes X (fun cls d _ H => E cls d H)
theorem CxOk.u64 {X : Cx} {E : XK} (o : CxOk X E) : X.A.units + 64 < cLine := by
  have := o.un
  omega
theorem CxOk.u65 {X : Cx} {E : XK} (o : CxOk X E) : X.A.units + 65 < cLine := by
  have := o.un
  omega
section
variable {ca : Nat → Addr} {X : Cx} {E : XK} {st : Stmt} {sts : List Stmt} {t u : TS} {F F' : Env → Rs Out}
theorem jps_fz (i : Nat) (h : JPs ca X E sts t F) : JPs ca X E sts t (fun ρ => F (fz1 i ρ)) :=
  ⟨h.ps, fun G0 H0 G H ρ σ rep en hns D nx rt er => by
    obtain ⟨G', rep', en'⟩ := fz_rep i rep en
    exact h.sem G0 H0 G' H _ σ rep' en' hns D nx rt er⟩
theorem jp_fz (i : Nat) (h : JP ca X E st t F) : JP ca X E st t (fun ρ => F (fz1 i ρ)) :=
  ⟨h.ps, fun G0 H0 G H ρ σ rep en hns D nx rt er => by
    obtain ⟨G', rep', en'⟩ := fz_rep i rep en
    exact h.sem G0 H0 G' H _ σ rep' en' hns D nx rt er⟩
theorem jps_nil : JPs ca X E [] tNext fSkip := ⟨pss_nil, fun G0 H0 G H ρ σ rep en hns D nx rt er => nx ρ rfl G H σ rep en⟩
theorem jps_one (h : JP ca X E st t F) : JPs ca X E [st] t F := ⟨pss_one h.ps, h.sem⟩
theorem jps_cons (h : JP ca X E st t F) (h' : JPs ca X E sts u F') : JPs ca X E (st :: sts) (tSeq t u) (fSeq F F') :=
  ⟨pss_cons h.ps h'.ps, fun G0 H0 G H ρ σ rep en hns D nx rt er => h.sem.use rep en hns (fun ρ' e1 e2 G' H' σ' rep' en' =>
      h'.sem G0 H0 G' H' ρ' σ' rep' en' (by rw [← e2]; exact hns) D (fun ρ2 e3 => nx ρ2 (e2.trans e3)) (fun s e3 => rt s (e2.trans e3)) (by rw [← e2]; exact er)) rt er⟩
theorem jp_pass {pos : Pos} : JP ca X E (.Pass pos) tNext fSkip := ⟨ps_pass, fun G0 H0 G H ρ σ rep en hns D nx rt er => nx ρ rfl G H σ rep en⟩
/-- what can't be met -/
def fNever : Env → Rs Out := fun _ => .stuck
theorem jp_never : JP ca X E st tNever fNever := ⟨ps_never, fun G0 H0 G H ρ σ rep en hns D nx rt er => absurd rfl hns⟩
end
/-! ### assignments, returns, tests -/
def fSet (i : Nat) (F : Env → Rs Sl) : Env → Rs Out := fun ρ => F ρ >>= fun s => .ok (.nx (ρ.set i s))
def fRet (F : Env → Rs Sl) : Env → Rs Out := fun ρ => F ρ >>= fun s => .ok (.rt s)
def slRet : Option Sl → Rs Sl
  | some (.sh d) => .ok (.sh d)
  | some (.ol ds) => .ok (.ol ds)
  | some (.od kvs) => .ok (.od kvs)
  | some (.exn x) => .ok (.exn x)
  | _ => .stuck
def fRetVar (i : Nat) : Env → Rs Out := fun ρ => slRet ρ[i]? >>= fun s => .ok (.rt s)
def fIf (F : Env → Rs Bool) (A B : Env → Rs Out) : Env → Rs Out := fun ρ => F ρ >>= fun b => if b = true then A ρ else B ρ
/-- a slot takes what an expression gave -/
theorem rep_take {c : Pc} {G0 H0 G H G' H' : Hp} {ρ : Env} {σ : L2.St} {v : V} {s : Sl} (i : Nat) (rep : Rep c G H ρ σ) (en : Ent G0 H0 G H ρ σ) (n : Nx G H G' H') (q : RV c G H G' H' v s) :
    Rep c G' H' (ρ.set i s) (σ.set i (some v)) ∧ Ent G0 H0 G' H' (ρ.set i s) (σ.set i (some v)) := by
  have r' := rep.nx n
  have fresh : ∀ p, H p = none → ∀ (j : Nat) u, j ≠ i → ρ[j]? = some u → u.own = true → σ[j]? ≠ some (some (.ref p)) := fun p hp j u _ e hu z => by
    obtain ⟨o, e1, q⟩ := rep.sl j u e
    rw [z] at e1
    cases e1
    cases u with
    | ol ds => obtain ⟨b, xs, z1, _, h1, _⟩ := q; cases z1; rw [hp] at h1; cases h1
    | od ds => obtain ⟨b, xs, z1, _, h1, _⟩ := q; cases z1; rw [hp] at h1; cases h1
    | no => cases hu
    | sh d => cases hu
    | exn x => cases hu
  have ent : ∀ (w : s.own = true → ∀ p, v = .ref p → H0 p = none), Ent G0 H0 G' H' (ρ.set i s) (σ.set i (some v)) := fun w => by
    refine ⟨en.nx.trans n, fun j u p e hu f => ?_⟩
    rw [List.getElem?_set] at e f
    by_cases hij : i = j
    · rw [if_pos hij] at e f
      split at e
      · cases e
        split at f
        · cases f
          exact w hu p rfl
        · cases f
      · cases e
    · rw [if_neg hij] at e f
      exact en.own j u p e hu f
  cases s with
  | no => exact q.elim
  | sh d => exact ⟨r'.set rfl ⟨v, rfl, q⟩, ent fun z => nomatch z⟩
  | ol ds =>
    obtain ⟨p, xs, rfl, h0, g1, h1, q⟩ := q
    exact ⟨r'.setOwn ⟨p, xs, rfl, g1, h1, q⟩ (fresh p h0), ent fun _ b e => by cases e; exact en.nx.h.back h0⟩
  | od ds =>
    obtain ⟨p, xs, rfl, h0, g1, h1, q⟩ := q
    exact ⟨r'.setOwn ⟨p, xs, rfl, g1, h1, q⟩ (fresh p h0), ent fun _ b e => by cases e; exact en.nx.h.back h0⟩
  | exn x => exact ⟨r'.set rfl ⟨v, rfl, q⟩, ent fun z => nomatch z⟩
theorem sem_set {c : Pc} {E : XK} {te : TE} {F : Env → Rs Sl} (i : Nat) (h : SemG c E te F (RV c)) : SemP c E (tAsg te (gName i)) (fSet i F) := by
  intro G0 H0 G H ρ σ rep en hns D nx rt er
  refine h.use rep hns (fun x e G' H' cl dd n => er x e G' H' cl dd (en.nx.trans n)) fun s es e1 G' H' v n _ q hk _ => ?_
  obtain ⟨r2, e2⟩ := rep_take i rep en n q
  exact nx _ e1 G' H' _ r2 e2
section
variable {ca : Nat → Addr} {X : Cx} {E : XK} {e : Expr} {te : TE} {F : Env → Rs Sl} {pos pos' : Pos}
theorem jp_set {i : Nat} {x : Str} (h : JV ca X E e te F) (hN : X.N.Nodup) (hi : X.N[i]? = some x) (hx : Loc X.env.scope x) (hs : swapsWith e (some (.Name x pos')) pos.line X.env = pure false := by rfl)
    (hf : X.fn x = true ∨ X.env.scope.names.lookup x = some .local := by first | exact .inl rfl | exact .inr rfl) : JP ca X E (.Assign [.Name x pos'] e pos) (tAsg te (gName i)) (fSet i F) :=
  ⟨ps_set hN hi hx h.pe hs hf, sem_set i h.sem⟩
theorem jp_ret (h : JV ca X E e te F) : JP ca X E (.Return (some e) pos) (tRet te) (fRet F) :=
  ⟨ps_ret h.pe, fun G0 H0 G H ρ σ rep en hns D nx rt er => h.sem.use rep hns (fun x e G' H' cl dd n => er x e G' H' cl dd (en.nx.trans n)) fun s es e1 G' H' v n _ q hk _ =>
    rt s e1 G' H' v (en.nx.trans n) (RV.mono en.nx q)⟩
theorem jp_retVar (i : Nat) {x : Str} (h : PE X (.Name x pos') (tVar i)) : JP ca X E (.Return (some (.Name x pos')) pos) (tRet (tVar i)) (fRetVar i) := by
  refine ⟨ps_ret h, fun G0 H0 G H ρ σ rep en hns D nx rt er => ?_⟩
  unfold fRetVar at hns rt
  cases hs : ρ[i]? with
  | none => rw [hs] at hns; exact absurd rfl hns
  | some s =>
    rw [hs] at hns rt
    obtain ⟨o, e1, q⟩ := rep.sl i s hs
    cases s with
    | no => exact absurd rfl hns
    | exn x =>
      obtain ⟨v, rfl, q⟩ := q
      exact ⟨v, e1, rt (.exn x) rfl G H v en.nx q⟩
    | sh d =>
      obtain ⟨v, rfl, q⟩ := q
      exact ⟨v, e1, rt (.sh d) rfl G H v en.nx q⟩
    | ol ds =>
      obtain ⟨p, xs, rfl, gp, hp, q⟩ := q
      exact ⟨_, e1, rt (.ol ds) rfl G H _ en.nx ⟨p, xs, rfl, en.own i _ p hs rfl e1, gp, hp, q⟩⟩
    | od ds =>
      obtain ⟨p, xs, rfl, gp, hp, q⟩ := q
      exact ⟨_, e1, rt (.od ds) rfl G H _ en.nx ⟨p, xs, rfl, en.own i _ p hs rfl e1, gp, hp, q⟩⟩
theorem jp_if {c : Expr} {a b : List Stmt} {tc : TT} {ta tb : TS} {Fc : Env → Rs Bool} {Fa Fb : Env → Rs Out} (hc : JT ca X E c tc Fc) (ha : JPs ca X E a ta Fa) (hb : JPs ca X E b tb Fb) : JP ca X E (.If c a b pos) (tIfS tc ta tb) (fIf Fc Fa Fb) :=
  ⟨ps_if hc.pt ha.ps hb.ps, fun G0 H0 G H ρ σ rep en hns D nx rt er => hc.sem.use rep hns (fun x e G' H' cl dd n => er x e G' H' cl dd (en.nx.trans n)) fun s es e1 G' H' v n r q hk _ => by
    cases q
    cases s with
    | true =>
      show ta D σ H'
      exact ha.sem G0 H0 G' H' ρ σ r (en.go n) hk D (fun ρ' e => nx ρ' (e1.trans e)) (fun s e => rt s (e1.trans e)) fun x e => er x (e1.trans e)
    | false =>
      show tb D σ H'
      exact hb.sem G0 H0 G' H' ρ σ r (en.go n) hk D (fun ρ' e => nx ρ' (e1.trans e)) (fun s e => rt s (e1.trans e)) fun x e => er x (e1.trans e)⟩
end
/-! ### a, b = x, y with plain local names -/
def fPar (i j : Nat) (F : Env → Rs (List PyData)) : Env → Rs Out := fun ρ => F ρ >>= fun ds => match ds with
  | [a, b] => .ok (.nx ((ρ.set i (.sh a)).set j (.sh b)))
  | _ => .stuck
section
variable {ca : Nat → Addr} {X : Cx} {E : XK}
theorem jp_par {i j : Nat} {x y : Str} {a b : Expr} {ta : TA} {F : Env → Rs (List PyData)} {px py pt pos : Pos} {kt k2 pt2} (ha : JA ca X E [a, b] ta F) (hc : X.calm = true) (hN : X.N.Nodup) (hi : X.N[i]? = some x) (hj : X.N[j]? = some y) (hij : i ≠ j)
    (hx : X.env.scope.names.lookup x = some .local) (hy : X.env.scope.names.lookup y = some .local)
    (hw : swappedStores [.Tuple [.Name x px, .Name y py] kt pt] (.Tuple [a, b] k2 pt2) X.env = pure (some [x, y]) := by rfl)
    (hs : swapsWithSole [.Tuple [.Name x px, .Name y py] kt pt] (.Tuple [a, b] k2 pt2) pos.line X.env = pure false := by rfl) :
    JP ca X E (.Assign [.Tuple [.Name x px, .Name y py] kt pt] (.Tuple [a, b] k2 pt2) pos) (tPar i j ta) (fPar i j F) :=
  ⟨ps_par hc hN hi hj hij hx hy ha.pa hw hs, fun G0 H0 G H ρ σ rep en hns D nx rt er => ha.sem.use rep hns (fun x e G' H' cl dd n => er x e G' H' cl dd (en.nx.trans n)) fun ds es e1 G' H' vs n r q hk _ => by
    have q : DpAll X.K G' vs ds := q
    match ds, vs, q with
    | [d, e], _, .cons q1 (.cons q2 .nil) =>
      refine ⟨_, _, rfl, ?_⟩
      obtain ⟨r1, n1⟩ := rep_take (s := .sh d) i rep en n q1
      obtain ⟨r2, n2⟩ := rep_take (s := .sh e) j r1 n1 (Nx.refl r1.gh) q2
      exact nx _ e1 G' H' _ r2 n2
    | [], _, _ => exact absurd rfl hk
    | [_], _, _ => exact absurd rfl hk
    | _ :: _ :: _ :: _, _, _ => exact absurd rfl hk⟩
end
/-! ### while -/
def whF (c : Env → Rs Bool) (b : Env → Rs Out) : Nat → Env → Rs Out
  | 0, _ => .stuck
  | n + 1, ρ => c ρ >>= fun k => if k = true then after (b ρ) (whF c b n) else .ok (.nx ρ)
theorem whF_mono {c : Env → Rs Bool} {b : Env → Rs Out} : ∀ (n m : Nat) (ρ : Env), n ≤ m → whF c b n ρ ≠ .stuck → whF c b m ρ = whF c b n ρ
  | 0, _, _, _, h => absurd rfl h
  | n + 1, 0, _, hl, _ => absurd hl (by omega)
  | n + 1, m + 1, ρ, hl, h => by
    unfold whF at h ⊢
    cases hc : c ρ with
    | stuck => rfl
    | err x => rfl
    | ok k =>
      rw [hc, ok_bind] at h
      rw [ok_bind, ok_bind]
      cases k with
      | false => rfl
      | true =>
        rw [if_pos rfl] at h
        rw [if_pos rfl, if_pos rfl]
        cases hb : b ρ with
        | stuck => rfl
        | err x => rfl
        | ok o =>
          cases o with
          | rt s => rfl
          | nx ρ' =>
            rw [hb, after_nx] at h
            rw [after_nx, after_nx]
            exact whF_mono n m ρ' (by omega) h
open Classical in
/-- the whole loop -/
noncomputable def whL (c : Env → Rs Bool) (b : Env → Rs Out) (ρ : Env) : Rs Out := if h : ∃ n, whF c b n ρ ≠ .stuck then whF c b (Classical.choose h) ρ else .stuck
theorem whL_of {c : Env → Rs Bool} {b : Env → Rs Out} {n : Nat} {ρ : Env} {r : Rs Out} (h : whF c b n ρ = r) (hr : r ≠ .stuck) : whL c b ρ = r := by
  have hx : ∃ n, whF c b n ρ ≠ .stuck := ⟨n, by rw [h]; exact hr⟩
  have e : whL c b ρ = whF c b (Classical.choose hx) ρ := dif_pos hx
  have h2 := Classical.choose_spec hx
  rw [e]
  by_cases hl : n ≤ Classical.choose hx
  · rw [whF_mono n _ ρ hl (by rw [h]; exact hr), h]
  · rw [← whF_mono _ n ρ (by omega) h2, h]
theorem whL_ex {c : Env → Rs Bool} {b : Env → Rs Out} {ρ : Env} (h : whL c b ρ ≠ .stuck) : ∃ n, whF c b n ρ = whL c b ρ := by
  by_cases hx : ∃ n, whF c b n ρ ≠ .stuck
  · exact ⟨Classical.choose hx, by unfold whL; rw [dif_pos hx]⟩
  · exact absurd (dif_neg hx) h
/-- one turn of it -/
theorem whL_eq (c : Env → Rs Bool) (b : Env → Rs Out) (ρ : Env) : whL c b ρ = (c ρ >>= fun k => if k = true then after (b ρ) (whL c b) else .ok (.nx ρ)) := by
  cases hc : c ρ with
  | stuck =>
    have : ∀ n, whF c b n ρ = .stuck := fun n => by cases n with
      | zero => rfl
      | succ n => unfold whF; rw [hc]; rfl
    exact dif_neg fun ⟨n, h⟩ => h (this n)
  | err x => exact whL_of (n := 1) (by unfold whF; rw [hc]; rfl) (fun z => nomatch z)
  | ok k =>
    rw [ok_bind]
    cases k with
    | false => exact whL_of (n := 1) (by unfold whF; rw [hc]; rfl) (fun z => nomatch z)
    | true =>
      rw [if_pos rfl]
      have e1 : ∀ n, whF c b (n + 1) ρ = after (b ρ) (whF c b n) := fun n => by
        show (c ρ >>= fun k => if k = true then after (b ρ) (whF c b n) else .ok (.nx ρ)) = _
        rw [hc, ok_bind, if_pos rfl]
      by_cases hx : after (b ρ) (whL c b) = .stuck
      · rw [hx]
        refine dif_neg fun ⟨n, h⟩ => ?_
        cases n with
        | zero => exact h rfl
        | succ n =>
          rw [e1] at h
          cases hb : b ρ with
          | stuck => rw [hb] at h; exact h rfl
          | err x => rw [hb] at hx; cases hx
          | ok o =>
            cases o with
            | rt s => rw [hb] at hx; cases hx
            | nx ρ' =>
              rw [hb, after_nx] at h hx
              rw [whL_of rfl h] at hx
              exact h hx
      · cases hb : b ρ with
        | stuck => rw [hb] at hx; exact absurd rfl hx
        | err x => exact whL_of (n := 1) (by rw [e1, hb]; rfl) (fun z => nomatch z)
        | ok o =>
          cases o with
          | rt s => exact whL_of (n := 1) (by rw [e1, hb]; rfl) (fun z => nomatch z)
          | nx ρ' =>
            rw [hb, after_nx] at hx
            obtain ⟨n, hn⟩ := whL_ex hx
            rw [after_nx]
            exact whL_of (n := n + 1) (by rw [e1, hb, after_nx, hn]) hx
section
variable {ca : Nat → Addr} {X : Cx} {E : XK} {pos : Pos}
theorem jp_while {c : Expr} {body : List Stmt} {tc : TT} {tb : TS} {Fc : Env → Rs Bool} {Fb : Env → Rs Out} (hc : JT ca X E c tc Fc) (hb : JPs ca X E body tb Fb) (hp : PassesOwn (model X.prog X.w) X.A X.env X.xe) : JP ca X E (.While c body [] pos) (tWhile tc tb) (whL Fc Fb) := by
  refine ⟨ps_while hp hc.pt hb.ps, fun G0 H0 G H ρ σ rep en hns D nx rt er => ?_⟩
  obtain ⟨n, hn⟩ := whL_ex hns
  refine ⟨fun m σ' H' => ∃ G' ρ', Rep ⟨X.K, ca⟩ G' H' ρ' σ' ∧ Ent G0 H0 G' H' ρ' σ' ∧ whF Fc Fb m ρ' = whL Fc Fb ρ, ⟨n, G, ρ, rep, en, hn⟩, fun m σ' H' h => ?_⟩
  obtain ⟨G', ρ', rep', en', hm⟩ := h
  cases m with
  | zero => exact absurd hm.symm hns
  | succ m =>
    have e0 : (Fc ρ' >>= fun k => if k = true then after (Fb ρ') (whF Fc Fb m) else .ok (.nx ρ')) = whL Fc Fb ρ := hm
    refine hc.sem.use rep' (by rw [e0]; exact hns) (fun x e G' H' cl dd n => er x (e0 ▸ e) G' H' cl dd (en'.nx.trans n)) fun k hk e1 G1 H1 v n1 r1 q hk1 _ => ?_
    cases q
    cases k with
    | false =>
      show D.nx σ' H1
      exact nx ρ' (e0.symm.trans e1) G1 H1 σ' r1 (en'.go n1)
    | true =>
      show ∃ N : L2.St → Hp → Prop, _
      rw [if_pos rfl] at e1 hk1
      have e2 : after (Fb ρ') (whF Fc Fb m) = whL Fc Fb ρ := e1.symm.trans e0
      refine ⟨fun σ2 H2 => ∃ G2 ρ2, Rep ⟨X.K, ca⟩ G2 H2 ρ2 σ2 ∧ Ent G0 H0 G2 H2 ρ2 σ2 ∧ whF Fc Fb m ρ2 = whL Fc Fb ρ, fun σ2 H2 h => ⟨m, Nat.lt_succ_self m, h⟩, ?_⟩
      exact hb.sem.use r1 (en'.go n1) hk1 (fun ρ2 e3 e4 G2 H2 σ2 rep2 en2 => ⟨G2, ρ2, rep2, en2, e4.symm.trans e2⟩) (fun s e3 => rt s (e2.symm.trans e3)) fun x e => er x (e2.symm.trans e)
end
/-! ### defs -/
def outV : Rs Out → Rs Sl
  | .ok (.nx _) => .ok (.sh .none)
  | .ok (.rt s) => .ok s
  | .err x => .err x
  | .stuck => .stuck
/-- a def's function: its parameters shared, its other names nothing -/
def fnOf (np n : Nat) (F : Env → Rs Out) (ds : List PyData) : Rs Sl := if ds.length = np then outV (F (ds.map Sl.sh ++ List.replicate (n - ds.length) Sl.no)) else .stuck
/-- the promise -/
def spF (c : Pc) (f : List PyData → Rs Sl) (np : Nat) : Sp := fun vs H Q E => ∃ G ds, Ex G H ∧ DpAll c.K G vs ds ∧ ds.length = np ∧ f ds ≠ .stuck ∧
  (∀ s, f ds = .ok s → ∀ G' H' v, Nx G H G' H' → RV c G H G' H' v s → Q v H') ∧ ErrP c E G H (f ds)
theorem start_rep {c : Pc} {G H : Hp} {N : List Str} {vs : List V} {ds : List PyData} (e : Ex G H) (a : DpAll c.K G vs ds) (hl : ds.length ≤ N.length) : Rep c G H (ds.map Sl.sh ++ List.replicate (N.length - ds.length) Sl.no) (L2.start N vs) := by
  have hv := DpAll.length a
  have noown : ∀ (i : Nat) s, (ds.map Sl.sh ++ List.replicate (N.length - ds.length) Sl.no)[i]? = some s → s.own = false := fun i s h => by
    have hm := List.mem_of_getElem? h
    rcases List.mem_append.mp hm with q | q
    · obtain ⟨d, _, rfl⟩ := List.mem_map.mp q
      rfl
    · rw [(List.mem_replicate.mp q).2]
      rfl
  refine ⟨e, ?_, fun i s h => ?_, fun i j s s' p h1 h2 w1 w2 => ?_⟩
  · unfold L2.start
    simp only [List.length_append, List.length_map, List.length_replicate]
    omega
  · unfold L2.start
    by_cases hi : i < ds.length
    · rw [List.getElem?_append_left (by rw [List.length_map]; exact hi), List.getElem?_map] at h
      cases hd : ds[i]? with
      | none => rw [hd] at h; cases h
      | some d =>
        rw [hd] at h
        cases h
        obtain ⟨v, hv, q⟩ := DpAll.getD a hd
        refine ⟨some v, ?_, v, rfl, q⟩
        rw [List.getElem?_append_left (by rw [List.length_map]; omega), List.getElem?_map, hv]
        rfl
    · rw [List.getElem?_append_right (by rw [List.length_map]; omega)] at h
      have hs := List.mem_of_getElem? h
      rw [(List.mem_replicate.mp hs).2]
      have hlt := (List.getElem?_eq_some_iff.mp h).1
      rw [List.length_map, List.length_replicate] at hlt
      refine ⟨none, ?_, trivial⟩
      rw [List.getElem?_append_right (by rw [List.length_map]; omega), List.getElem?_replicate, if_pos (by rw [List.length_map]; omega)]
  · rw [noown i s h1] at w1
    cases w1
theorem fnOf_len {np n : Nat} {F : Env → Rs Out} (ds : List PyData) (h : fnOf np n F ds ≠ .stuck) : ds.length = np := by
  unfold fnOf at h
  split at h
  · assumption
  · exact absurd rfl h
/-- THE RULE for a def -/
theorem fn_ok {P : Program} {w : World} {K : PySem.W.Frag} {mg : Str → Option Value} {base : Heap} {ca : Nat → Addr} {x qual : Str} {st : Stmt} {f : Addr} {fd : FuncData} {N ps : List Str} {k : Nat} (F : Fun K x qual st f fd) (S : FnScope N ps (defScope st)) (FF : Env → Rs Out)
    (hb : ∀ (cdv : Value) (A : Around) (outer : List PySem.Env) (s : Shared) (H : Hp) (E : XK), Room k (A.deeper (PyProof.Rows.envOfC qual (defScope st) s.heap.objs.size f cdv)) →
      CxOk (cxOf (L2.CX P w) P w K mg base N qual (defScope st) f cdv A outer s H E) E →
      ∃ t, JPs ca (cxOf (L2.CX P w) P w K mg base N qual (defScope st) f cdv A outer s H E) E (defBody st) t FF) (hnp : ps.length ≤ N.length := by decide) :
    FnOk P w K mg base (L2.CX P w) (k + 1) f fd ps (spF ⟨K, ca⟩ (fnOf ps.length N.length FF) ps.length) := by
  refine F.okX S (fun vs H Q E h => ?_) (fun cdv A outer s H vs Q E hr h => ?_)
  · obtain ⟨G, ds, _, a, e, _⟩ := h
    rw [DpAll.length a, e]
  · obtain ⟨G, ds, e, a, el, hns, hok, her⟩ := h
    have o : CxOk (cxOf (L2.CX P w) P w K mg base N qual (defScope st) f cdv A outer s H E) E :=
      ⟨rfl, by have := hr.un; show (A.deeper _).units + 200 < cLine; omega, S.nd, passes_of rfl, passes_call (takes_of rfl rfl rfl rfl) fun _ _ _ _ z => z, takes_of rfl rfl rfl rfl⟩
    obtain ⟨t, hps, hsem⟩ := hb cdv A outer s H E hr o
    refine ⟨t, hps, ?_⟩
    have rep : Rep ⟨K, ca⟩ G H (ds.map Sl.sh ++ List.replicate (N.length - ds.length) Sl.no) (L2.start N vs) := start_rep e a (by rw [el]; exact hnp)
    have ent : Ent G H G H (ds.map Sl.sh ++ List.replicate (N.length - ds.length) Sl.no) (L2.start N vs) := ⟨Nx.refl e, fun i s p h1 h2 h3 => by
      have hm := List.mem_of_getElem? h1
      rcases List.mem_append.mp hm with q | q
      · obtain ⟨d, _, rfl⟩ := List.mem_map.mp q
        cases h2
      · rw [(List.mem_replicate.mp q).2] at h2
        cases h2⟩
    have key : ∀ r, FF (ds.map Sl.sh ++ List.replicate (N.length - ds.length) Sl.no) = r → fnOf ps.length N.length FF ds = outV r := fun r z => by unfold fnOf; rw [if_pos el, z]
    refine hsem G H G H _ _ rep ent (fun z => hns (by rw [key _ z]; rfl)) _ (fun ρ' z G' H' σ' r' n' => ?_) (fun s z G' H' v n q => ?_) fun y z => ?_
    · exact hok (.sh .none) (by rw [key _ z]; rfl) G' H' .non n'.nx .non
    · exact hok s (by rw [key _ z]; rfl) G' H' v n q
    · exact her y (by rw [key _ z]; rfl)
/-- f(..) -/
def fCall (f : List PyData → Rs Sl) (F : Env → Rs (List PyData)) : Env → Rs Sl := fun ρ => F ρ >>= f
theorem sem_callF {c : Pc} {E : XK} {f : List PyData → Rs Sl} {np : Nat} {t : TA} {F : Env → Rs (List PyData)} (h : SemG c E t F (RA c)) (hl : ∀ ds, f ds ≠ .stuck → ds.length = np) : SemG c E (tCall (spF c f np) [] E t) (fCall f F) (RV c) := by
  intro G H ρ σ rep hns Q ok er
  refine h.use rep hns er fun ds ed e1 G1 H1 vs n1 r1 q1 h1 er1 => ?_
  show spF c f np (vs ++ []) H1 Q E
  rw [List.append_nil]
  exact ⟨G1, ds, n1.gh, q1, hl ds h1, h1, fun s es G' H' v n q => ok s (e1.trans es) G' H' v (n1.trans n) (RV.mono n1 q), er1⟩
end PF

namespace PF
open PySem L2

/-! ### targets -/
theorem wipe_set {σ : L2.St} {i : Nat} {o : Option V} : ∀ {vs : List Nat}, i ∈ vs → wipe (σ.set i o) vs = wipe σ vs
  | v :: vs, h => by
    show (wipe (σ.set i o) vs).set v none = (wipe σ vs).set v none
    by_cases hi : i ∈ vs
    · rw [wipe_set hi]
    · have e : v = i := by
        rcases List.mem_cons.mp h with q | q
        · exact q.symm
        · exact absurd q hi
      subst e
      have key : ∀ (us : List Nat), v ∉ us → wipe (σ.set v o) us = (wipe σ us).set v o := fun us => by
        induction us with
        | nil => intro _; rfl
        | cons u us ih =>
          intro hu
          have h1 : v ≠ u := fun z => hu (by rw [z]; exact List.mem_cons_self)
          show (wipe (σ.set v o) us).set u none = ((wipe σ us).set u none).set v o
          rw [ih fun z => hu (List.mem_cons_of_mem _ z)]
          exact List.set_comm _ _ h1
      rw [key vs hi, List.set_set]
theorem wipe_idem (σ : L2.St) (vs : List Nat) : wipe (wipe σ vs) vs = wipe σ vs := by
  have key : ∀ us : List Nat, (∀ u ∈ us, u ∈ vs) → wipe (wipe σ us) vs = wipe σ vs := fun us => by
    induction us with
    | nil => intro _; rfl
    | cons u us ih =>
      intro h
      show wipe ((wipe σ us).set u none) vs = wipe σ vs
      rw [wipe_set (h u List.mem_cons_self)]
      exact ih fun z hz => h z (List.mem_cons_of_mem _ hz)
  exact key vs fun _ h => h
/-- what a target binds -/
abbrev Tgt := PyData → Env → Option Env
def SemTG (c : Pc) (g : TG) (T : Tgt) (L : List Nat) : Prop :=
  ∀ (G H : Hp) (ρ : Env) (σ : L2.St) (v : V) (d : PyData) (ρ' : Env), Rep c G H ρ σ → Dp c.K G v d → T d ρ = some ρ' → ∀ Q : L2.St → Hp → Prop,
    (∀ σ', Rep c G H ρ' σ' → (∀ (i : Nat) s, ρ'[i]? = some s → s.own = true → ρ[i]? = some s ∧ σ'[i]? = σ[i]?) → (∀ vs, (∀ i ∈ L, i ∈ vs) → wipe σ' vs = wipe σ vs) → Q σ' H) → g v σ H Q
structure JG (ca : Nat → Addr) (X : Cx) (e : Expr) (g : TG) (T : Tgt) (L : List Nat) : Prop where
  pg : PG X e g
  sem : SemTG ⟨X.K, ca⟩ g T L
abbrev Tgts := List PyData → Env → Option Env
def SemTGs (c : Pc) (g : TGs) (T : Tgts) (L : List Nat) : Prop :=
  ∀ (G H : Hp) (ρ : Env) (σ : L2.St) (vs : List V) (ds : List PyData) (ρ' : Env), Rep c G H ρ σ → DpAll c.K G vs ds → T ds ρ = some ρ' → ∀ Q : L2.St → Hp → Prop,
    (∀ σ', Rep c G H ρ' σ' → (∀ (i : Nat) s, ρ'[i]? = some s → s.own = true → ρ[i]? = some s ∧ σ'[i]? = σ[i]?) → (∀ vs, (∀ i ∈ L, i ∈ vs) → wipe σ' vs = wipe σ vs) → Q σ' H) → g vs σ H Q
structure JGs (ca : Nat → Addr) (X : Cx) (es : List Expr) (g : TGs) (T : Tgts) (L : List Nat) : Prop where
  pgs : PGs X es g
  sem : SemTGs ⟨X.K, ca⟩ g T L
def tgN (i : Nat) : Tgt := fun d ρ => some (ρ.set i (.sh d))
def tgNil : Tgts := fun ds ρ => match ds with
  | [] => some ρ
  | _ => none
def tgCons (T : Tgt) (Ts : Tgts) : Tgts := fun ds ρ => match ds with
  | [] => none
  | d :: ds => (T d ρ).bind (Ts ds)
def tgT (n : Nat) (Ts : Tgts) : Tgt := fun d ρ => match d with
  | .tuple ds => if ds.length = n then Ts ds ρ else none
  | _ => none
def tgL (n : Nat) (Ts : Tgts) : Tgt := fun d ρ => match d with
  | .list ds => if ds.length = n then Ts ds ρ else none
  | _ => none
section
variable {ca : Nat → Addr} {X : Cx} {pos : Pos}
theorem own_set {ρ : Env} {σ : L2.St} {i : Nat} {d : PyData} {o : Option V} : ∀ (j : Nat) s, (ρ.set i (.sh d))[j]? = some s → s.own = true → ρ[j]? = some s ∧ (σ.set i o)[j]? = σ[j]? := fun j s e hs => by
  rw [List.getElem?_set] at e ⊢
  by_cases hij : i = j
  · rw [if_pos hij] at e
    split at e <;> cases e
    cases hs
  · rw [if_neg hij] at e ⊢
    exact ⟨e, rfl⟩
theorem jg_name {i : Nat} {x : Str} (hN : X.N.Nodup) (hi : X.N[i]? = some x) (hx : Loc X.env.scope x) (hf : X.fn x = true ∨ X.env.scope.names.lookup x = some .local := by first | exact .inl rfl | exact .inr rfl) : JG ca X (.Name x pos) (gName i) (tgN i) [i] :=
  ⟨pg_name hN hi hx hf, fun G H ρ σ v d ρ' rep q e Q k => by
    cases e
    exact k _ (rep.set rfl ⟨v, rfl, q⟩) own_set fun vs hv => wipe_set (hv i List.mem_cons_self)⟩
theorem jgs_nil : JGs ca X [] gNil tgNil [] :=
  ⟨pgs_nil, fun G H ρ σ vs ds ρ' rep q e Q k => by
    cases q with
    | nil =>
      cases e
      exact ⟨rfl, k σ rep (fun i s h _ => ⟨h, rfl⟩) fun _ _ => rfl⟩
    | cons _ _ => cases e⟩
theorem jgs_cons {e : Expr} {es : List Expr} {g : TG} {gs : TGs} {T : Tgt} {Ts : Tgts} {L L' : List Nat} (h : JG ca X e g T L) (h' : JGs ca X es gs Ts L')
    (hs : (assignEach (e :: es) X.env).map (·.2) = assign e X.env :: (assignEach es X.env).map (·.2) := by rfl) : JGs ca X (e :: es) (gCons g gs) (tgCons T Ts) (L ++ L') :=
  ⟨pgs_cons h.pg h'.pgs hs, fun G H ρ σ vs ds ρ' rep q e Q k => by
    cases q with
    | nil => cases e
    | @cons v vs d ds q1 q2 =>
      have e : (T d ρ).bind (Ts ds) = some ρ' := e
      cases e1 : T d ρ with
      | none => rw [e1] at e; cases e
      | some ρ1 =>
        rw [e1, Option.bind_some] at e
        refine ⟨v, vs, rfl, h.sem G H ρ σ v d ρ1 rep q1 e1 _ fun σ1 r1 o1 w1 => h'.sem G H ρ1 σ1 vs ds ρ' r1 q2 e Q fun σ2 r2 o2 w2 => k σ2 r2 (fun i s a b => ?_) fun us hu => ?_⟩
        · obtain ⟨a1, b1⟩ := o2 i s a b
          obtain ⟨a2, b2⟩ := o1 i s a1 b
          exact ⟨a2, b1.trans b2⟩
        · rw [w2 us fun i hi => hu i (List.mem_append_right _ hi), w1 us fun i hi => hu i (List.mem_append_left _ hi)]⟩
theorem jg_tup {es : List Expr} {k : Nat} {g : TGs} {n : Nat} {Ts : Tgts} {L : List Nat} (h : JGs ca X es g Ts L) (hc : X.calm = true) (hn : (assignEach es X.env).length = n := by rfl) (hst : (assignEach es X.env).findIdx? (·.1) = none := by rfl) : JG ca X (.Tuple es k pos) (gTup X.K n g) (tgT n Ts) L :=
  ⟨pg_tup hc h.pgs hn hst, fun G H ρ σ v d ρ' rep q e Q k => by
    cases d with
    | tuple ds =>
      have e : (if ds.length = n then Ts ds ρ else none) = some ρ' := e
      split at e
      · rename_i hl
        obtain ⟨a, xs, rfl, hx, ax⟩ := Dp.tuple_v q
        exact ⟨a, xs, rfl, Ex.sqt rep.gh hx, by rw [DpAll.length ax, hl], h.sem G H ρ σ xs ds ρ' rep ax e Q k⟩
      · cases e
    | none => cases e
    | bool b => cases e
    | int b => cases e
    | str b => cases e
    | list b => cases e
    | dict b => cases e⟩
theorem jg_unl {es : List Expr} {k : Nat} {g : TGs} {n : Nat} {Ts : Tgts} {L : List Nat} (h : JGs ca X es g Ts L) (hc : X.calm = true) (hn : (assignEach es X.env).length = n := by rfl) (hst : (assignEach es X.env).findIdx? (·.1) = none := by rfl) : JG ca X (.Tuple es k pos) (gUnl X.K n g) (tgL n Ts) L :=
  ⟨pg_unl hc h.pgs hn hst, fun G H ρ σ v d ρ' rep q e Q k => by
    cases d with
    | list ds =>
      have e : (if ds.length = n then Ts ds ρ else none) = some ρ' := e
      split at e
      · rename_i hl
        obtain ⟨a, xs, rfl, hx, ax⟩ := Dp.list_v q
        exact ⟨a, xs, rfl, Ex.sql rep.gh hx, by rw [DpAll.length ax, hl], h.sem G H ρ σ xs ds ρ' rep ax e Q k⟩
      · cases e
    | none => cases e
    | bool b => cases e
    | int b => cases e
    | str b => cases e
    | tuple b => cases e
    | dict b => cases e⟩
/-- target = e -/
def fAsg (T : Tgt) (F : Env → Rs PyData) : Env → Rs Out := fun ρ => F ρ >>= fun d => match T d ρ with
  | some ρ' => .ok (.nx ρ')
  | none => .stuck
theorem ent_tgt {G0 H0 G H : Hp} {ρ ρ' : Env} {σ σ' : L2.St} (en : Ent G0 H0 G H ρ σ) (o : ∀ (i : Nat) s, ρ'[i]? = some s → s.own = true → ρ[i]? = some s ∧ σ'[i]? = σ[i]?) : Ent G0 H0 G H ρ' σ' :=
  ⟨en.nx, fun i s p e hs f => by
    obtain ⟨a, b⟩ := o i s e hs
    exact en.own i s p a hs (b ▸ f)⟩
theorem jp_asg {E : XK} {tg e : Expr} {te : TE} {g : TG} {F : Env → Rs PyData} {T : Tgt} {L : List Nat} (he : JS ca X E e te F) (hg : JG ca X tg g T L) (hs : swapsWithSole [tg] e pos.line X.env = pure false := by rfl) (hw : swappedStores [tg] e X.env = pure none := by rfl) (h1 : (assignEach [tg] X.env).map (·.2) = [assign tg X.env] := by rfl) :
    JP ca X E (.Assign [tg] e pos) (tAsg te g) (fAsg T F) :=
  ⟨ps_asg he.pe hg.pg hs hw h1, fun G0 H0 G H ρ σ rep en hns D nx rt er => he.sem.use rep hns (fun x e G' H' cl dd n => er x e G' H' cl dd (en.nx.trans n)) fun d ed e1 G' H' v n r q hk _ => by
    cases ht : T d ρ with
    | none => rw [ht] at hk; exact absurd rfl hk
    | some ρ' =>
      rw [ht] at e1
      exact hg.sem G' H' ρ σ v d ρ' r q ht _ fun σ' r' o _ => nx ρ' e1 G' H' σ' r' (ent_tgt (en.go n) o)⟩
end

/-! ### what a loop walks -/
/-- while D holds of the heap the walk gives the data ds; b: D stands as long as the whole heap does, else as long as what is shown does -/
structure WalkD (c : Pc) (b : Bool) (G1 H1 : Hp) (J : It) (ds : List PyData) : Prop where
  ex : ∃ Gd : Hp → Prop, (∀ G H, Ex G1 G → Ex G H → (b = true → Ex H1 H) → Gd H) ∧ (∀ i H, i < ds.length → Gd H → J.go i H) ∧ (∀ H, Gd H → J.stop ds.length H) ∧
    ∀ i G H x H' d, ds[i]? = some d → Gd H → Ex G1 G → Ex G H → J.yld i H x H' → ∃ G', Nx G H G' H' ∧ Dp c.K G' x d
def SemI (c : Pc) (E : XK) (b : Bool) (wi : TI) (F : Env → Rs (List PyData)) : Prop :=
  ∀ (G H : Hp) (ρ : Env) (σ : L2.St), Rep c G H ρ σ → F ρ ≠ .stuck → ∀ R : It → Hp → Prop,
    (∀ ds, F ρ = .ok ds → ∀ G' H' J, Nx G H G' H' → WalkD c b G' H' J ds → R J H') → ErrP c E G H (F ρ) → wi σ H R
structure JI (ca : Nat → Addr) (X : Cx) (E : XK) (b : Bool) (tg iter : Expr) (wi : TI) (F : Env → Rs (List PyData)) : Prop where
  pi : PI X tg iter wi
  sem : SemI ⟨X.K, ca⟩ E b wi F
def itemsL : PyData → Rs (List PyData)
  | .list ds => .ok ds
  | _ => .stuck
def itemsT : PyData → Rs (List PyData)
  | .tuple ds => .ok ds
  | _ => .stuck
def rangeD (lo hi : Int) : List PyData := (List.range (hi - lo).toNat).map fun (i : Nat) => .int (lo + i)
def small62 (i : Int) : Prop := -(2 ^ 62) ≤ i ∧ i < 2 ^ 62
instance (i : Int) : Decidable (small62 i) := by unfold small62; infer_instance
def rng1 : List PyData → Rs (List PyData)
  | [.int j] => if small62 j then .ok (rangeD 0 j) else .stuck
  | _ => .stuck
def rng2 : List PyData → Rs (List PyData)
  | [.int i, .int j] => if small62 i ∧ small62 j then .ok (rangeD i j) else .stuck
  | _ => .stuck
def pairD (a b : PyData) : PyData := .tuple [a, b]
def zipL (xs ys : List PyData) : List PyData := List.zipWith pairD xs ys
/-- zip: two lists, or two tuples -/
def zipD : List PyData → Rs (List PyData)
  | [.list xs, .list ys] => .ok (zipL xs ys)
  | [.tuple xs, .tuple ys] => .ok (zipL xs ys)
  | _ => .stuck
def enumL (xs : List PyData) : List PyData := (xs.zipIdx).map fun p => pairD (.int p.2) p.1
def enumD : List PyData → Rs (List PyData)
  | [.list xs] => .ok (enumL xs)
  | _ => .stuck
def revD : PyData → Rs (List PyData)
  | .list ds => .ok ds.reverse
  | .tuple ds => .ok ds.reverse
  | _ => .stuck
def fIt {α : Type} (f : α → Rs (List PyData)) (F : Env → Rs α) : Env → Rs (List PyData) := fun ρ => F ρ >>= f
theorem walkd_same {c : Pc} {b : Bool} {G1 H1 : Hp} {J : It} {ds : List PyData} {xs : List V} (Gd : Hp → Prop) (Y : Nat → Hp → V → Hp → Prop) (hg : ∀ G H, Ex G1 G → Ex G H → (b = true → Ex H1 H) → Gd H) (a : DpAll c.K G1 xs ds)
    (w : Walk J xs.length Gd Y) (hy : ∀ i H x H', Y i H x H' → H' = H ∧ xs[i]? = some x) : WalkD c b G1 H1 J ds := by
  have hl := DpAll.length a
  refine ⟨Gd, hg, fun i H hi g => w.goes i H (by omega) g, fun H g => by rw [← hl]; exact w.stops H g, fun i G H x H' d hd g x1 x2 hyl => ?_⟩
  have hi : i < xs.length := by rw [hl]; exact (List.getElem?_eq_some_iff.mp hd).1
  obtain ⟨rfl, hx⟩ := hy i H x H' (w.yields i H x H' hi g hyl)
  obtain ⟨d', e1, q⟩ := DpAll.get a hx
  rw [hd] at e1
  cases e1
  exact ⟨G, Nx.refl x2, Dp.ex x1 q⟩
/-- a pair is laid and shown -/
theorem pair_new {c : Pc} {G H H' : Hp} {T : Addr} {x y : V} {a b : PyData} (e : Ex G H) (h : H T = none) (e' : H' = upd H T (.tup [x, y])) (da : Dp c.K G x a) (db : Dp c.K G y b) : ∃ G', Nx G H G' H' ∧ Dp c.K G' (.ref T) (pairD a b) := by
  subst e'
  have x1 : Ex G (upd G T (.tup [x, y])) := Ex.new (e.back h)
  exact ⟨upd G T (.tup [x, y]), Nx.new e h, .tup (.inl (.inl upd_same)) (.cons (Dp.ex x1 da) (.cons (Dp.ex x1 db) .nil))⟩
theorem zipL_get {xs ys : List PyData} {i : Nat} {d : PyData} (h : (zipL xs ys)[i]? = some d) : ∃ a b, xs[i]? = some a ∧ ys[i]? = some b ∧ d = pairD a b := by
  unfold zipL at h
  rw [List.getElem?_zipWith] at h
  cases hx : xs[i]? with
  | none => rw [hx] at h; simp at h
  | some a =>
    cases hy : ys[i]? with
    | none => rw [hx, hy] at h; simp at h
    | some b =>
      rw [hx, hy] at h
      simp at h
      exact ⟨a, b, rfl, rfl, h.symm⟩
section
variable {ca : Nat → Addr} {X : Cx} {E : XK} {tg e e2 : Expr} {te : TE} {ta : TA} {F : Env → Rs PyData} {Fs : Env → Rs (List PyData)} {p pos tpos : Pos} {elts : List Expr} {kk : Nat}
/-- over a list that is shown -/
theorem ji_list (h : JS ca X E e te F) : JI ca X E false tg e (iList X.K te) (fIt itemsL F) :=
  ⟨pi_list h.pe, fun G H ρ σ rep hns R ok er => h.sem.use rep hns er fun d ed e1 G' H' v n r q hk _ => by
    cases d with
    | list ds =>
      obtain ⟨a, xs, rfl, hx, ax⟩ := Dp.list_v q
      exact ⟨a, rfl, ⟨xs, Ex.sql n.gh hx⟩, ok ds e1 G' H' _ n (walkd_same _ _ (fun G2 H2 z1 z2 _ => Ex.sql z2 (Ex.sql z1 hx)) ax walk_list fun i H x H' y => y)⟩
    | none => exact absurd rfl hk
    | bool b => exact absurd rfl hk
    | int b => exact absurd rfl hk
    | str b => exact absurd rfl hk
    | tuple b => exact absurd rfl hk
    | dict b => exact absurd rfl hk⟩
/-- over a list that stands still -/
theorem ji_listB (h : JB ca X E e te F) : JI ca X E true tg e (iList X.K te) (fIt itemsL F) :=
  ⟨pi_list h.pe, fun G H ρ σ rep hns R ok er => h.sem.use rep hns er fun d ed e1 G' H' v n r q hk _ => by
    cases d with
    | list ds =>
      obtain ⟨a, xs, rfl, hx, ax⟩ := db_list n.gh q
      exact ⟨a, rfl, ⟨xs, hx⟩, ok ds e1 G' H' _ n (walkd_same _ _ (fun G2 H2 z1 z2 z3 => Ex.sql (z3 rfl) hx) ax walk_list fun i H x H' y => y)⟩
    | none => exact absurd rfl hk
    | bool b => exact absurd rfl hk
    | int b => exact absurd rfl hk
    | str b => exact absurd rfl hk
    | tuple b => exact absurd rfl hk
    | dict b => exact absurd rfl hk⟩
theorem ji_tup {b : Bool} (h : JS ca X E e te F) : JI ca X E b tg e (iTup X.K te) (fIt itemsT F) :=
  ⟨pi_tup h.pe, fun G H ρ σ rep hns R ok er => h.sem.use rep hns er fun d ed e1 G' H' v n r q hk _ => by
    cases d with
    | tuple ds =>
      obtain ⟨a, xs, rfl, hx, ax⟩ := Dp.tuple_v q
      exact ⟨a, rfl, ⟨xs, Ex.sqt n.gh hx⟩, ok ds e1 G' H' _ n (walkd_same _ _ (fun G2 H2 z1 z2 _ => Ex.sqt z2 (Ex.sqt z1 hx)) ax walk_tup fun i H x H' y => y)⟩
    | none => exact absurd rfl hk
    | bool b => exact absurd rfl hk
    | int b => exact absurd rfl hk
    | str b => exact absurd rfl hk
    | list b => exact absurd rfl hk
    | dict b => exact absurd rfl hk⟩
theorem walkd_range {c : Pc} {b : Bool} {G1 H1 : Hp} {lo hi : Int} : WalkD c b G1 H1 (Itr lo (hi - lo).toNat) (rangeD lo hi) := by
  have hl : (rangeD lo hi).length = (hi - lo).toNat := by unfold rangeD; rw [List.length_map, List.length_range]
  refine ⟨fun _ => True, fun _ _ _ _ _ => trivial, fun i H hi' _ => by rw [hl] at hi'; exact hi', fun H _ => by rw [hl]; exact Nat.le_refl _, fun i G H x H' d hd _ x1 x2 hyl => ?_⟩
  obtain ⟨rfl, rfl⟩ := hyl
  unfold rangeD at hd
  rw [List.getElem?_map] at hd
  have hi' : i < (hi - lo).toNat := by rw [← hl]; exact (by
    have := (List.getElem?_eq_some_iff.mp (show (rangeD lo hi)[i]? = some d by unfold rangeD; rw [List.getElem?_map]; exact hd)).1
    exact this)
  rw [List.getElem?_range hi'] at hd
  cases hd
  exact ⟨G, Nx.refl x2, .int _⟩
theorem ji_range1 {a : Expr} {b : Bool} (ha : JA ca X E [a] ta Fs) (hm : X.mg "range" = none) (hg : Gl X "range" := by rfl) (hs : starEach [a] X.env = [(false, eval a X.env)] := by rfl) : JI ca X E b tg (.Call (.Name "range" p) [a] [] pos) (iRng1 ta) (fIt rng1 Fs) :=
  ⟨pi_range1 hg hm ha.pa hs, fun G H ρ σ rep hns R ok er => ha.sem.use rep hns er fun d ed e1 G' H' v n r q hk _ => by
    have q : DpAll X.K G' v d := q
    match d, v, q with
    | [.int j], _, .cons q .nil =>
      by_cases hj : small62 j
      · have e2 : rng1 [.int j] = .ok (rangeD 0 j) := if_pos hj
        refine ⟨j, by rw [Dp.int_v q], hj.1, hj.2, ok _ (e1.trans e2) G' H' _ n ?_⟩
        have := walkd_range (c := ⟨X.K, ca⟩) (b := b) (G1 := G') (H1 := H') (lo := 0) (hi := j)
        rw [Int.sub_zero] at this
        exact this
      · exact absurd (if_neg hj) hk
    | [], _, _ => exact absurd rfl hk
    | [.none], _, _ => exact absurd rfl hk
    | [.bool _], _, _ => exact absurd rfl hk
    | [.str _], _, _ => exact absurd rfl hk
    | [.list _], _, _ => exact absurd rfl hk
    | [.tuple _], _, _ => exact absurd rfl hk
    | [.dict _], _, _ => exact absurd rfl hk
    | a1 :: a2 :: as, _, _ => exact absurd (show rng1 (a1 :: a2 :: as) = .stuck by cases a1 <;> rfl) hk⟩
theorem rng2_ok {ds rs : List PyData} (h : rng2 ds = .ok rs) : ∃ i j, ds = [.int i, .int j] ∧ small62 i ∧ small62 j ∧ rs = rangeD i j := by
  unfold rng2 at h
  split at h
  · split at h
    · rename_i h2
      cases h
      exact ⟨_, _, rfl, h2.1, h2.2, rfl⟩
    · cases h
  · cases h
theorem ji_range2 {a a2 : Expr} {b : Bool} (ha : JA ca X E [a, a2] ta Fs) (hm : X.mg "range" = none) (hg : Gl X "range" := by rfl) (hs : starEach [a, a2] X.env = [(false, eval a X.env), (false, eval a2 X.env)] := by rfl) (hs2 : starEach [a2] X.env = [(false, eval a2 X.env)] := by rfl) :
    JI ca X E b tg (.Call (.Name "range" p) [a, a2] [] pos) (iRng2 ta) (fIt rng2 Fs) :=
  ⟨pi_range2 hg hm ha.pa hs hs2, fun G H ρ σ rep hns R ok er => ha.sem.use rep hns er fun d ed e1 G' H' v n r q hk _ => by
    have q : DpAll X.K G' v d := q
    cases h2 : rng2 d with
    | stuck => exact absurd h2 hk
    | err x => unfold rng2 at h2; split at h2 <;> (try split at h2) <;> cases h2
    | ok rs =>
      obtain ⟨i, j, rfl, hi, hj, rfl⟩ := rng2_ok h2
      match v, q with
      | _, .cons q1 (.cons q2 .nil) => exact ⟨i, j, by rw [Dp.int_v q1, Dp.int_v q2], ⟨hi.1, hi.2, hj.1, hj.2⟩, ok _ (e1.trans h2) G' H' _ n walkd_range⟩⟩
theorem zipD_ok {ds rs : List PyData} (h : zipD ds = .ok rs) : ∃ xs ys, (ds = [.list xs, .list ys] ∨ ds = [.tuple xs, .tuple ys]) ∧ rs = zipL xs ys := by
  unfold zipD at h
  split at h
  · cases h; exact ⟨_, _, .inl rfl, rfl⟩
  · cases h; exact ⟨_, _, .inr rfl, rfl⟩
  · cases h
/-- over zip of two lists or of two tuples, shown -/
theorem ji_zip {b : Bool} (ha : JA ca X E [e, e2] ta Fs) (hm : X.mg "zip" = none) (hg : Gl X "zip" := by rfl) (hs : starEach [e, e2] X.env = (false, eval e X.env) :: starEach [e2] X.env := by rfl) (hpl : (backTo pos (starEach [e2] X.env)).any (·.1) = false := by rfl) :
    JI ca X E b (.Tuple elts kk tpos) (.Call (.Name "zip" p) [e, e2] [] pos) (RZ.iZipA X.K ta) (fIt zipD Fs) :=
  ⟨RZ.pi_zipA hg hm ha.pa hs hpl, fun G H ρ σ rep hns R ok er => ha.sem.use rep hns er fun d ed e1 G' H' v n r q hk _ => by
    have q : DpAll X.K G' v d := q
    cases h2 : zipD d with
    | stuck => exact absurd h2 hk
    | err x => unfold zipD at h2; split at h2 <;> cases h2
    | ok rs =>
      obtain ⟨xs, ys, hd, rfl⟩ := zipD_ok h2
      have hlen : (zipL xs ys).length = min xs.length ys.length := by unfold zipL; exact List.length_zipWith
      rcases hd with rfl | rfl
      · match v, q with
        | _, .cons q1 (.cons q2 .nil) =>
          obtain ⟨a, vs, rfl, ha1, aa⟩ := Dp.list_v q1
          obtain ⟨b2, ws, rfl, hb1, ab⟩ := Dp.list_v q2
          have la := DpAll.length aa
          have lb := DpAll.length ab
          refine ⟨a, b2, vs, ws, rfl, .inl ⟨Ex.sql n.gh ha1, Ex.sql n.gh hb1, ok _ (e1.trans h2) G' H' _ n ⟨fun H => SqL X.K H a vs ∧ SqL X.K H b2 ws, fun G2 H2 z1 z2 _ => ⟨Ex.sql z2 (Ex.sql z1 ha1), Ex.sql z2 (Ex.sql z1 hb1)⟩, ?_, ?_, ?_⟩⟩⟩
          · intro i H hi g
            exact (walk_zip (K := X.K) (a := a) (b := b2) (xs := vs) (ys := ws) rfl).goes i H (by rw [hlen] at hi; omega) g
          · intro H g
            rw [hlen, ← la, ← lb]
            exact (walk_zip (K := X.K) (a := a) (b := b2) (xs := vs) (ys := ws) rfl).stops H g
          · intro i G2 H2 x H3 d hd g z1 z2 hy
            obtain ⟨c1, c2, h1, h2, rfl⟩ := zipL_get hd
            have hi : i < min vs.length ws.length := by
              have a1 := (List.getElem?_eq_some_iff.mp h1).1
              have a2 := (List.getElem?_eq_some_iff.mp h2).1
              omega
            obtain ⟨T, x1, y1, rfl, hT, e3, e4, e5⟩ := (walk_zip (K := X.K) (a := a) (b := b2) (xs := vs) (ys := ws) rfl).yields i H2 x H3 hi g hy
            obtain ⟨d1, f1, g1⟩ := DpAll.get aa e4
            obtain ⟨d2, f2, g2⟩ := DpAll.get ab e5
            rw [h1] at f1
            rw [h2] at f2
            cases f1
            cases f2
            exact pair_new z2 hT e3 (Dp.ex z1 g1) (Dp.ex z1 g2)
      · match v, q with
        | _, .cons q1 (.cons q2 .nil) =>
          obtain ⟨a, vs, rfl, ha1, aa⟩ := Dp.tuple_v q1
          obtain ⟨b2, ws, rfl, hb1, ab⟩ := Dp.tuple_v q2
          have la := DpAll.length aa
          have lb := DpAll.length ab
          refine ⟨a, b2, vs, ws, rfl, .inr ⟨Ex.sqt n.gh ha1, Ex.sqt n.gh hb1, ok _ (e1.trans h2) G' H' _ n ⟨fun H => SqT X.K H a vs ∧ SqT X.K H b2 ws, fun G2 H2 z1 z2 _ => ⟨Ex.sqt z2 (Ex.sqt z1 ha1), Ex.sqt z2 (Ex.sqt z1 hb1)⟩, ?_, ?_, ?_⟩⟩⟩
          · intro i H hi g
            have l1 : i < vs.length := by rw [hlen] at hi; omega
            have l2 : i < ws.length := by rw [hlen] at hi; omega
            exact ⟨vs, ws, vs[i], ws[i], g.1, g.2, List.getElem?_eq_getElem l1, List.getElem?_eq_getElem l2⟩
          · intro H g
            exact ⟨vs, ws, g.1, g.2, by rw [hlen]; omega⟩
          · intro i G2 H2 x H3 d hd g z1 z2 hy
            obtain ⟨c1, c2, h1, h2, rfl⟩ := zipL_get hd
            obtain ⟨T, x1, y1, rfl, hT, e3, e4, e5⟩ := hy
            obtain ⟨d1, f1, g1⟩ := DpAll.get aa (e4 vs g.1)
            obtain ⟨d2, f2, g2⟩ := DpAll.get ab (e5 ws g.2)
            rw [h1] at f1
            rw [h2] at f2
            cases f1
            cases f2
            exact pair_new z2 hT e3 (Dp.ex z1 g1) (Dp.ex z1 g2)⟩
theorem enumD_ok {ds rs : List PyData} (h : enumD ds = .ok rs) : ∃ xs, ds = [.list xs] ∧ rs = enumL xs := by
  unfold enumD at h
  split at h
  · cases h; exact ⟨_, rfl, rfl⟩
  · cases h
theorem enumL_get {xs : List PyData} {i : Nat} {d : PyData} (h : (enumL xs)[i]? = some d) : ∃ a, xs[i]? = some a ∧ d = pairD (.int i) a := by
  unfold enumL at h
  rw [List.getElem?_map, List.getElem?_zipIdx] at h
  cases hx : xs[i]? with
  | none => rw [hx] at h; cases h
  | some a =>
    rw [hx] at h
    simp at h
    exact ⟨a, rfl, h.symm⟩
theorem ji_enum {b : Bool} (ha : JA ca X E [e] ta Fs) (hm : X.mg "enumerate" = none) (hg : Gl X "enumerate" := by rfl) (hs : starEach [e] X.env = [(false, eval e X.env)] := by rfl) :
    JI ca X E b (.Tuple elts kk tpos) (.Call (.Name "enumerate" p) [e] [] pos) (iEnum X.K ta) (fIt enumD Fs) :=
  ⟨pi_enum hg hm ha.pa hs, fun G H ρ σ rep hns R ok er => ha.sem.use rep hns er fun d ed e1 G' H' v n r q hk _ => by
    have q : DpAll X.K G' v d := q
    cases h2 : enumD d with
    | stuck => exact absurd h2 hk
    | err x => unfold enumD at h2; split at h2 <;> cases h2
    | ok rs =>
      obtain ⟨xs, rfl, rfl⟩ := enumD_ok h2
      have hlen : (enumL xs).length = xs.length := by unfold enumL; rw [List.length_map, List.length_zipIdx]
      match v, q with
      | _, .cons q1 .nil =>
        obtain ⟨a, vs, rfl, ha1, aa⟩ := Dp.list_v q1
        have la := DpAll.length aa
        refine ⟨a, vs, rfl, Ex.sql n.gh ha1, ok _ (e1.trans h2) G' H' _ n ⟨fun H => SqL X.K H a vs, fun G2 H2 z1 z2 _ => Ex.sql z2 (Ex.sql z1 ha1), ?_, ?_, ?_⟩⟩
        · intro i H hi g
          exact walk_enum.goes i H (by rw [hlen] at hi; omega) g
        · intro H g
          rw [hlen, ← la]
          exact walk_enum.stops H g
        · intro i G2 H2 x H3 d hd g z1 z2 hy
          obtain ⟨c1, h1, rfl⟩ := enumL_get hd
          have hi : i < vs.length := by rw [la]; exact (List.getElem?_eq_some_iff.mp h1).1
          obtain ⟨T, x1, y1, rfl, hT, e3, e4, e5⟩ := walk_enum.yields i H2 x H3 hi g hy
          obtain ⟨d1, f1, g1⟩ := DpAll.get aa e5
          rw [h1] at f1
          cases f1
          cases e4
          exact pair_new z2 hT e3 (.int _) (Dp.ex z1 g1)⟩
theorem ji_rev {b : Bool} (h : JS ca X E e te F) (hm : X.mg "reversed" = none) (hg : Gl X "reversed" := by rfl) (hs : starEach [e] X.env = (false, eval e X.env) :: starEach [] X.env := by rfl) : JI ca X E b tg (.Call (.Name "reversed" p) [e] [] pos) (RT.iRevA X.K te) (fIt revD F) :=
  ⟨RT.pi_revA hg hm h.pe hs, fun G H ρ σ rep hns R ok er => h.sem.use rep hns er fun d ed e1 G' H' v n r q hk _ => by
    have rev : ∀ {ds : List PyData} {vs : List V} {i : Nat} {x : V} {d : PyData}, DpAll X.K G' vs ds → vs[vs.length - 1 - i]? = some x → ds.reverse[i]? = some d → Dp X.K G' x d := fun {ds vs i x d} a hx hd => by
      have hl := DpAll.length a
      have hi : i < ds.length := by have := (List.getElem?_eq_some_iff.mp hd).1; rwa [List.length_reverse] at this
      rw [List.getElem?_reverse hi, ← hl] at hd
      obtain ⟨d', e1, q⟩ := DpAll.get a hx
      rw [hd] at e1
      cases e1
      exact q
    cases d with
    | list ds =>
      obtain ⟨a, xs, rfl, hx, ax⟩ := Dp.list_v q
      have la := DpAll.length ax
      refine ⟨a, xs, rfl, .inl ⟨Ex.sql n.gh hx, ok _ e1 G' H' _ n ⟨fun H => SqL X.K H a xs, fun G2 H2 z1 z2 _ => Ex.sql z2 (Ex.sql z1 hx), ?_, ?_, ?_⟩⟩⟩
      · intro i H hi g
        exact walk_rev.goes i H (by rw [List.length_reverse] at hi; omega) g
      · intro H g
        rw [List.length_reverse, ← la]
        exact walk_rev.stops H g
      · intro i G2 H2 x H3 d hd g z1 z2 hy
        have hi : i < xs.length := by rw [la]; have := (List.getElem?_eq_some_iff.mp hd).1; rwa [List.length_reverse] at this
        obtain ⟨rfl, e3⟩ := walk_rev.yields i H2 x H3 hi g hy
        exact ⟨G2, Nx.refl z2, Dp.ex z1 (rev ax e3 hd)⟩
    | tuple ds =>
      obtain ⟨a, xs, rfl, hx, ax⟩ := Dp.tuple_v q
      have la := DpAll.length ax
      refine ⟨a, xs, rfl, .inr ⟨Ex.sqt n.gh hx, ok _ e1 G' H' _ n ⟨fun H => SqT X.K H a xs, fun G2 H2 z1 z2 _ => Ex.sqt z2 (Ex.sqt z1 hx), ?_, ?_, ?_⟩⟩⟩
      · intro i H hi g
        have hi : i < xs.length := by rw [List.length_reverse] at hi; omega
        exact ⟨hi, xs, xs[xs.length - 1 - i], g, List.getElem?_eq_getElem (by omega)⟩
      · intro H g
        show xs.length ≤ ds.reverse.length
        rw [List.length_reverse, la]
        exact Nat.le_refl _
      · intro i G2 H2 x H3 d hd g z1 z2 hy
        obtain ⟨rfl, e3⟩ := hy
        exact ⟨G2, Nx.refl z2, Dp.ex z1 (rev ax (e3 xs g) hd)⟩
    | none => exact absurd rfl hk
    | bool b => exact absurd rfl hk
    | int b => exact absurd rfl hk
    | str b => exact absurd rfl hk
    | dict b => exact absurd rfl hk⟩
end
/-! ### for -/
/-- H0 with all that is shown now -/
def ovl (H0 G : Hp) : Hp := fun a => match G a with
  | some o => some o
  | none => H0 a
theorem ovl_some {H0 G : Hp} {a : Addr} {o : HO} (h : G a = some o) : ovl H0 G a = some o := by unfold ovl; rw [h]
theorem ovl_none {H0 G : Hp} {a : Addr} (h : G a = none) : ovl H0 G a = H0 a := by unfold ovl; rw [h]
theorem ovl_ex {G0 H0 G H : Hp} (n : Nx G0 H0 G H) : Ex H0 (ovl H0 G) := fun a o h => by
  cases hg : G a with
  | none => rw [ovl_none hg]; exact h
  | some u =>
    rw [ovl_some hg]
    have h1 := n.gh a u hg
    rw [n.h a o h] at h1
    exact h1.symm
theorem nx_up {G0 H0 G H G2 H2 : Hp} (n : Nx G0 H0 G H) (n2 : Nx G0 H0 G2 H2) (x : Ex G G2) : Nx G (ovl H0 G) G2 H2 := by
  refine ⟨x, fun a o h => ?_, n2.gh, fun a h g => ?_⟩
  · cases hg : G a with
    | none => rw [ovl_none hg] at h; exact n2.h a o h
    | some u => rw [ovl_some hg] at h; cases h; exact n2.gh a _ (x a _ hg)
  · rw [ovl_none g] at h
    exact n2.fr a h (n.g.back g)
theorem nx_down {G0 H0 G H G3 H3 : Hp} (n : Nx G0 H0 G H) (m : Nx G (ovl H0 G) G3 H3) : Nx G0 H0 G3 H3 := by
  refine ⟨n.g.trans m.g, (ovl_ex n).trans m.h, m.gh, fun a h g => ?_⟩
  rcases n.fr a h g with q | ⟨xs, q⟩
  · exact m.fr a (by rw [ovl_none q]; exact h) q
  · exact .inr ⟨xs, m.g a _ q⟩
theorem ent_up {G0 H0 G H G2 H2 : Hp} {ρ : Env} {σ : L2.St} (c : Pc) (n : Nx G0 H0 G H) (x : Ex G G2) (r : Rep c G2 H2 ρ σ) (e : Ent G0 H0 G2 H2 ρ σ) : Ent G (ovl H0 G) G2 H2 ρ σ :=
  ⟨nx_up n e.nx x, fun i s p h1 h2 h3 => by
    have g : G2 p = none := by
      obtain ⟨o, e1, q⟩ := r.sl i s h1
      rw [h3] at e1
      cases e1
      cases s with
      | ol ds => obtain ⟨b, xs, z, g, _⟩ := q; cases z; exact g
      | od ds => obtain ⟨b, xs, z, g, _⟩ := q; cases z; exact g
      | no => cases h2
      | sh d => cases h2
      | exn x => cases h2
    rw [ovl_none (x.back g)]
    exact e.own i s p h1 h2 h3⟩
theorem ent_down {G0 H0 G H G3 H3 : Hp} {ρ : Env} {σ : L2.St} (n : Nx G0 H0 G H) (e : Ent G (ovl H0 G) G3 H3 ρ σ) : Ent G0 H0 G3 H3 ρ σ :=
  ⟨nx_down n e.nx, fun i s p h1 h2 h3 => (ovl_ex n).back (e.own i s p h1 h2 h3)⟩
theorem rv_down {c : Pc} {G0 H0 G H G3 H3 : Hp} {v : V} {s : Sl} (n : Nx G0 H0 G H) (h : RV c G (ovl H0 G) G3 H3 v s) : RV c G0 H0 G3 H3 v s := by
  cases s with
  | no => exact h
  | sh d => exact h
  | ol ds => obtain ⟨p, xs, e, h1, q⟩ := h; exact ⟨p, xs, e, (ovl_ex n).back h1, q⟩
  | od ds => obtain ⟨p, xs, e, h1, q⟩ := h; exact ⟨p, xs, e, (ovl_ex n).back h1, q⟩
  | exn x => exact h
def forF (T : Tgt) (B : Env → Rs Out) : List PyData → Env → Rs Out
  | [], ρ => .ok (.nx ρ)
  | d :: ds, ρ => match T d ρ with
    | some ρ' => after (B ρ') (forF T B ds)
    | none => .stuck
def fFor (F : Env → Rs (List PyData)) (T : Tgt) (B : Env → Rs Out) : Env → Rs Out := fun ρ => F ρ >>= fun ds => forF T B ds ρ
section
variable {ca : Nat → Addr} {X : Cx} {E : XK} {pos : Pos}
theorem jp_for {tg iter : Expr} {body : List Stmt} {wi : TI} {g : TG} {tb : TS} {F : Env → Rs (List PyData)} {T : Tgt} {L : List Nat} {B : Env → Rs Out} (hi : JI ca X E false tg iter wi F) (hg : JG ca X tg g T L) (hb : JPs ca X E body tb B)
    (hp : PassesOwn (model X.prog X.w) X.A X.env X.xe) (hc : X.calm = true) (hs : ∀ x, foldedSetIterable iter X.env x = pure x := by intro _; rfl) : JP ca X E (.For tg iter body [] pos) (tFor wi g tb) (fFor F T B) := by
  refine ⟨ps_for hp hc hi.pi hg.pg hb.ps hs, fun G0 H0 G H ρ σ rep en hns D nx rt er => ?_⟩
  refine hi.sem G H ρ σ rep (fun z => hns (by unfold fFor; rw [z]; rfl)) _ (fun ds ed G' H' J n wd => ?_) fun x e G' H' cl dd n => er x (by unfold fFor; rw [e]; rfl) G' H' cl dd (en.nx.trans n)
  have e0 : fFor F T B ρ = forF T B ds ρ := by unfold fFor; rw [ed]; rfl
  have n0 : Nx G0 H0 G' H' := en.nx.trans n
  obtain ⟨Gd, hgd, goes, stops, ylds⟩ := wd.ex
  refine ⟨fun i m σ1 H1 => m = ds.length - i ∧ i ≤ ds.length ∧ ∃ G1 ρ1, Rep ⟨X.K, ca⟩ G1 H1 ρ1 σ1 ∧ Ent G' (ovl H0 G') G1 H1 ρ1 σ1 ∧ forF T B (ds.drop i) ρ1 = fFor F T B ρ,
    ⟨ds.length, rfl, Nat.zero_le _, G', ρ, rep.nx n, ent_up ⟨X.K, ca⟩ n0 (Ex.refl _) (rep.nx n) (en.go n), e0.symm⟩, fun i m σ1 H1 h => ?_⟩
  obtain ⟨rfl, hil, G1, ρ1, rep1, en1, hf⟩ := h
  have gd := hgd G1 H1 en1.nx.g rep1.gh (fun z => nomatch z)
  by_cases hlt : i < ds.length
  · refine .inr ⟨goes i H1 hlt gd, ?_⟩
    have hd : ds[i]? = some ds[i] := List.getElem?_eq_getElem hlt
    rw [List.drop_eq_getElem_cons hlt] at hf
    unfold forF at hf
    cases ht : T ds[i] ρ1 with
    | none => rw [ht] at hf; exact absurd hf.symm hns
    | some ρ2 =>
      rw [ht] at hf
      have hf : after (B ρ2) (forF T B (ds.drop (i + 1))) = fFor F T B ρ := hf
      refine ⟨fun σ2 H2 => ∃ G2 ρ3, Rep ⟨X.K, ca⟩ G2 H2 ρ3 σ2 ∧ Ent G' (ovl H0 G') G2 H2 ρ3 σ2 ∧ forF T B (ds.drop (i + 1)) ρ3 = fFor F T B ρ, fun σ2 H2 ⟨G2, ρ3, a1, a2, a4⟩ => ⟨ds.length - (i + 1), by omega, rfl, hlt, G2, ρ3, a1, a2, a4⟩, fun x H2 hy => ?_⟩
      obtain ⟨G2, n2, q2⟩ := ylds i G1 H1 x H2 _ hd gd en1.nx.g rep1.gh hy
      have r2 := rep1.nx n2
      refine hg.sem G2 H2 ρ1 σ1 x _ ρ2 r2 q2 ht _ fun σ2 r3 o _ => ?_
      have en2 : Ent G' (ovl H0 G') G2 H2 ρ2 σ2 := ent_tgt (en1.go n2) o
      exact hb.sem.use (k := forF T B (ds.drop (i + 1))) r3 en2 (by rw [hf]; exact hns) (fun ρ' e3 e4 G3 H3 σ3 r4 en3 => ⟨G3, ρ', r4, en3, e4.symm.trans hf⟩) (fun s e3 G3 H3 v n3 q3 => rt s (hf.symm.trans e3) G3 H3 v (nx_down n0 n3) (rv_down n0 q3))
        fun x e G3 H3 cl dd n3 => er x (hf.symm.trans e) G3 H3 cl dd (nx_down n0 n3)
  · have hi2 : i = ds.length := by omega
    subst hi2
    rw [List.drop_length] at hf
    exact .inl ⟨stops H1 gd, nx ρ1 hf.symm G1 H1 σ1 rep1 (ent_down n0 en1)⟩
end
/-! ### comprehensions -/
def wipeE (ρ : Env) : List Nat → Env
  | [] => ρ
  | v :: vs => (wipeE ρ vs).set v .no
theorem wipe_rep {c : Pc} {G H : Hp} {ρ : Env} {σ : L2.St} (r : Rep c G H ρ σ) : ∀ vs : List Nat, Rep c G H (wipeE ρ vs) (wipe σ vs)
  | [] => r
  | v :: vs => (wipe_rep r vs).set rfl trivial
/-- the items kept -/
def lcF (T : Tgt) (C : Env → Rs Bool) (F : Env → Rs PyData) (ρ0 : Env) : List PyData → List PyData → Rs (List PyData)
  | [], acc => .ok acc
  | d :: ds, acc => match T d ρ0 with
    | some ρ => C ρ >>= fun b => if b = true then F ρ >>= fun y => (if acc.length < lim then lcF T C F ρ0 ds (acc ++ [y]) else .stuck) else lcF T C F ρ0 ds acc
    | none => .stuck
def fLc (S : Env → Rs (List PyData)) (T : Tgt) (C : Env → Rs Bool) (F : Env → Rs PyData) (vs : List Nat) : Env → Rs Sl := fun ρ => S ρ >>= fun ds => lcF T C F (wipeE ρ vs) ds [] >>= fun r => .ok (.ol r)
def fYes : Env → Rs Bool := fun _ => .ok true
/-- the tests of a clause -/
structure JC (ca : Nat → Addr) (X : Cx) (E : XK) (ifs : List Expr) (t : TT) (F : Env → Rs Bool) : Prop where
  pts : PTs X ifs t
  sem : SemG ⟨X.K, ca⟩ E t F RT
theorem jc_nil {ca : Nat → Addr} {X : Cx} {E : XK} : JC ca X E [] tYes fYes := ⟨pts_nil, fun G H ρ σ rep hns Q ok er => ok true rfl G H true (Nx.refl rep.gh) rfl⟩
theorem jc_one {ca : Nat → Addr} {X : Cx} {E : XK} {c : Expr} {t : TT} {F : Env → Rs Bool} (h : JT ca X E c t F) : JC ca X E [c] t F := ⟨pts_one h.pt, h.sem⟩
theorem lc_sem {c : Pc} {E : XK} {wi : TI} {g : TG} {tt : TT} {te : TE} {S : Env → Rs (List PyData)} {T : Tgt} {L vs : List Nat} {C : Env → Rs Bool} {F : Env → Rs PyData} (hi : SemI c E true wi S) (hg : SemTG c g T L) (ht : SemG c E0 tt C RT) (he : SemG c E0 te F (RS c))
    (hL : ∀ i ∈ L, i ∈ vs) : ∀ (G H : Hp) (ρ : Env) (σ : L2.St), Rep c G H ρ σ → (∃ r, fLc S T C F vs ρ = .ok r) → ∀ Q : VK, (∀ a, fLc S T C F vs ρ = .ok a → ∀ G' H' v, Nx G H G' H' → RV c G H G' H' v a → Q v H') → tLc wi g tt te vs σ H Q := by
  intro G H ρ σ rep hr Q ok
  obtain ⟨r, hr⟩ := hr
  cases hS : S ρ with
  | stuck => unfold fLc at hr; rw [hS] at hr; cases hr
  | err x => unfold fLc at hr; rw [hS] at hr; cases hr
  | ok ds0 =>
  refine hi G H ρ σ rep (by rw [hS]; exact fun z => nomatch z) _ (fun ds ed G' H' J n wd => ?_) fun x e => by rw [hS] at e; cases e
  rw [hS] at ed
  cases ed
  cases hl : lcF T C F (wipeE ρ vs) ds0 [] with
  | stuck => unfold fLc at hr; rw [hS, ok_bind, hl] at hr; cases hr
  | err x => unfold fLc at hr; rw [hS, ok_bind, hl] at hr; cases hr
  | ok res =>
  have e0 : fLc S T C F vs ρ = .ok (.ol res) := by unfold fLc; rw [hS, ok_bind, hl]; rfl
  obtain ⟨Gd, hgd, goes, stops, ylds⟩ := wd.ex
  intro Dl hD
  have gD : G' Dl = none := n.gh.back hD
  refine ⟨fun i m H1 => m = ds0.length - i ∧ i ≤ ds0.length ∧ ∃ G1 acc xs, Nx G' (upd H' Dl (.lst [])) G1 (upd H1 Dl (.lst [])) ∧ Ex G1 H1 ∧ H1 Dl = some (.lst xs) ∧ DpAll c.K G1 xs acc ∧ lcF T C F (wipeE ρ vs) (ds0.drop i) acc = .ok res,
    ⟨ds0.length, rfl, Nat.zero_le _, G', [], [], ?_, ?_, upd_same, .nil, hl⟩, fun i m H1 h => ?_⟩
  · rw [upd_upd]
    exact Nx.refl (n.gh.trans (Ex.new hD))
  · exact n.gh.trans (Ex.new hD)
  obtain ⟨rfl, hil, G1, acc, xs, n1, x1, hx, ax, hf⟩ := h
  have g1D : G1 Dl = none := by
    rcases n1.fr Dl (by rw [upd_same]; exact fun z => nomatch z) gD with q | ⟨ys, q⟩
    · exact q
    · have := n1.gh Dl _ q
      rw [upd_same] at this
      cases this
  have old : ∀ a o, H' a = some o → H1 a = some o := fun a o h => by
    have hne : a ≠ Dl := ne_of_none h hD
    have := n1.h a o (by rw [upd_ne hne]; exact h)
    rwa [upd_ne hne] at this
  have nx1 : Nx G H G1 H1 := by
    refine ⟨n.g.trans n1.g, n.h.trans old, x1, fun a h g => ?_⟩
    rcases n.fr a h g with q | ⟨ys, q⟩
    · refine n1.fr a ?_ q
      have hne : a ≠ Dl := fun z => by
        subst z
        exact h (n.h.back hD)
      rw [upd_ne hne]
      cases hh : H a with
      | none => exact absurd hh h
      | some o => rw [n.h a o hh]; exact fun z => nomatch z
    · exact .inr ⟨ys, n1.g a _ q⟩
  have gd := hgd G1 H1 n1.g x1 fun _ => old
  by_cases hlt : i < ds0.length
  · refine .inr ⟨goes i H1 hlt gd, ?_⟩
    have hd : ds0[i]? = some ds0[i] := List.getElem?_eq_getElem hlt
    rw [List.drop_eq_getElem_cons hlt] at hf
    unfold lcF at hf
    cases htg : T ds0[i] (wipeE ρ vs) with
    | none => rw [htg] at hf; cases hf
    | some ρ2 =>
      rw [htg] at hf
      have hf : (C ρ2 >>= fun b => if b = true then F ρ2 >>= fun y => (if acc.length < lim then lcF T C F (wipeE ρ vs) (ds0.drop (i + 1)) (acc ++ [y]) else .stuck) else lcF T C F (wipeE ρ vs) (ds0.drop (i + 1)) acc) = .ok res := hf
      refine ⟨fun H2 => ∃ G1 acc xs, Nx G' (upd H' Dl (.lst [])) G1 (upd H2 Dl (.lst [])) ∧ Ex G1 H2 ∧ H2 Dl = some (.lst xs) ∧ DpAll c.K G1 xs acc ∧ lcF T C F (wipeE ρ vs) (ds0.drop (i + 1)) acc = .ok res,
        fun H2 ⟨G2, acc2, xs2, a1, a2, a3, a4, a5⟩ => ⟨ds0.length - (i + 1), by omega, rfl, hlt, G2, acc2, xs2, a1, a2, a3, a4, a5⟩, fun x H2 hy => ?_⟩
      obtain ⟨G2, n2, q2⟩ := ylds i G1 H1 x H2 _ hd gd n1.g x1 hy
      have r2 : Rep c G2 H2 (wipeE ρ vs) (wipe σ vs) := wipe_rep (rep.nx (nx1.trans n2)) vs
      refine hg G2 H2 _ _ x _ ρ2 r2 q2 htg _ fun σ2 r3 o w3 => ⟨?_, ?_⟩
      · rw [w3 vs hL, wipe_idem]
      -- behind a step that leaves what stands
      have step : ∀ G3 H3, Nx G1 H1 G3 H3 → ∀ H4, (∀ a, a ≠ Dl → H4 a = H3 a) → H4 Dl = H4 Dl → Ex G3 H4 → Nx G' (upd H' Dl (.lst [])) G3 (upd H4 Dl (.lst [])) := fun G3 H3 m H4 e4 _ x4 => by
        have g3D : G3 Dl = none := by
          rcases m.fr Dl (by rw [hx]; exact fun z => nomatch z) g1D with q | ⟨ys, q⟩
          · exact q
          · have h1 := m.gh Dl _ q
            rw [m.h Dl _ hx] at h1
            cases h1
        refine ⟨n1.g.trans m.g, fun a u h => ?_, fun a u h => ?_, fun a h g => ?_⟩
        · by_cases ha : a = Dl
          · subst ha
            rw [upd_same] at h ⊢
            exact h
          · rw [upd_ne ha] at h ⊢
            rw [e4 a ha]
            exact m.h a u (old a u h)
        · have ha : a ≠ Dl := ne_of_none h g3D
          rw [upd_ne ha]
          exact x4 a u h
        · rcases n1.fr a h g with q | ⟨ys, q⟩
          · by_cases ha : a = Dl
            · rw [ha]; exact .inl g3D
            · refine m.fr a ?_ q
              rw [upd_ne ha] at h
              cases hh : H' a with
              | none => exact absurd hh h
              | some o => rw [old a o hh]; exact fun z => nomatch z
          · exact .inr ⟨ys, m.g a _ q⟩
      have c0 : C ρ2 ≠ .stuck := fun z => by rw [z] at hf; cases hf
      refine ht G2 H2 ρ2 σ2 r3 c0 _ (fun b hb G3 H3 b' n3 eb => ?_) fun y e => by rw [e] at hf; cases hf
      cases eb
      rw [hb, ok_bind] at hf
      have m3 := n2.trans n3
      cases b with
      | false =>
        show ∃ G1 acc xs, _
        exact ⟨G3, acc, xs, step G3 H3 m3 H3 (fun _ _ => rfl) rfl n3.gh, n3.gh, m3.h Dl _ hx, DpAll.ex m3.g ax, hf⟩
      | true =>
        rw [if_pos rfl] at hf
        have f0 : F ρ2 ≠ .stuck := fun z => by rw [z] at hf; cases hf
        refine he G3 H3 ρ2 σ2 (r3.nx n3) f0 _ (fun y hy2 G4 H4 v n4 q4 => ?_) fun y e => by rw [e] at hf; cases hf
        rw [hy2, ok_bind] at hf
        have m4 := m3.trans n4
        have hx4 := m4.h Dl _ hx
        by_cases hlen : acc.length < lim
        · rw [if_pos hlen] at hf
          have g4D : G4 Dl = none := by
            rcases m4.fr Dl (by rw [hx]; exact fun z => nomatch z) g1D with q | ⟨ys, q⟩
            · exact q
            · have h1 := m4.gh Dl _ q
              rw [hx4] at h1
              cases h1
          have x4 : Ex G4 (upd H4 Dl (.lst (xs ++ [v]))) := fun a u h => by
            rw [upd_ne (ne_of_none h g4D)]
            exact n4.gh a u h
          refine ⟨xs, hx4, lim_lt (by rw [DpAll.length ax]; exact hlen), G4, acc ++ [y], xs ++ [v], ?_, x4, upd_same, DpAll.append (DpAll.ex m4.g ax) (.cons q4 .nil), hf⟩
          exact step G4 H4 m4 _ (fun a ha => upd_ne ha) rfl x4
        · rw [if_neg hlen] at hf
          cases hf
  · have hi2 : i = ds0.length := by omega
    subst hi2
    rw [List.drop_length] at hf
    cases hf
    refine .inl ⟨stops H1 gd, ok _ e0 G1 H1 _ nx1 ⟨Dl, xs, rfl, n.h.back hD, g1D, hx, ax⟩⟩
/-- errors don't leave a comprehension here -/
def fLcS (S : Env → Rs (List PyData)) (T : Tgt) (C : Env → Rs Bool) (F : Env → Rs PyData) (vs : List Nat) : Env → Rs Sl := fun ρ => match fLc S T C F vs ρ with
  | .ok r => .ok r
  | _ => .stuck
section
variable {ca : Nat → Addr} {X : Cx} {E : XK}
theorem sem_lc {c : Pc} {wi : TI} {g : TG} {tt : TT} {te : TE} {S : Env → Rs (List PyData)} {T : Tgt} {L vs : List Nat} {C : Env → Rs Bool} {F : Env → Rs PyData} (hi : SemI c E true wi S) (hg : SemTG c g T L) (ht : SemG c E0 tt C RT) (he : SemG c E0 te F (RS c))
    (hL : ∀ i ∈ L, i ∈ vs) : SemG c E (tLc wi g tt te vs) (fLcS S T C F vs) (RV c) := by
  intro G H ρ σ rep hns Q ok er
  unfold fLcS at hns ok
  cases hr : fLc S T C F vs ρ with
  | stuck => rw [hr] at hns; exact absurd rfl hns
  | err x => rw [hr] at hns; exact absurd rfl hns
  | ok r =>
    refine lc_sem hi hg ht he hL G H ρ σ rep ⟨r, hr⟩ Q fun a e => ok a (by rw [hr] at e ⊢; exact e)
theorem jv_lc {elt tg iter : Expr} {ifs : List Expr} {scope : Scope} {own : List (Str × Nat)} {pos : Pos} {wi : TI} {g : Shared → Hp → Addr → List (Str × Addr) → List Addr → TG} {tt : Shared → Hp → Addr → List (Str × Addr) → List Addr → TT} {te : Shared → Hp → Addr → List (Str × Addr) → List Addr → TE} {S : Env → Rs (List PyData)} {T : Tgt} {L : List Nat} {C : Env → Rs Bool} {F : Env → Rs PyData} (hc : X.calm = true) (hN : X.N.Nodup) (hi : JI ca X E true tg iter wi S) (ok : BlkOk X.N X.env.scope scope own)
    (hg : ∀ (s : Shared) (H : Hp) (D : Addr) (cl : List (Str × Addr)) (fp : List Addr), JG ca (X.blk s H scope (compEnvC scope cl D X.env) fp) tg (g s H D cl fp) T L) (ht : ∀ (s : Shared) (H : Hp) (D : Addr) (cl : List (Str × Addr)) (fp : List Addr), JC ca (X.blk s H scope (compEnvC scope cl D X.env) fp) E0 ifs (tt s H D cl fp) C)
    (he : ∀ (s : Shared) (H : Hp) (D : Addr) (cl : List (Str × Addr)) (fp : List Addr), JS ca (X.blk s H scope (compEnvC scope cl D X.env) fp) E0 elt (te s H D cl fp) F) (hL : ∀ i ∈ L, i ∈ own.map (·.2)) (s0 : Shared) (H0 : Hp) (hs : ∀ x, foldedSetIterable iter X.env x = pure x := by intro _; rfl)
    (qg : ∀ s H D cl fp, g s H D cl fp = g s0 H0 0 [] [] := by intro _ _ _ _ _; rfl) (qt : ∀ s H D cl fp, tt s H D cl fp = tt s0 H0 0 [] [] := by intro _ _ _ _ _; rfl) (qe : ∀ s H D cl fp, te s H D cl fp = te s0 H0 0 [] [] := by intro _ _ _ _ _; rfl) :
    JV ca X E (.ListComp elt [⟨tg, iter, ifs, 0⟩] scope pos) (tLc wi (g s0 H0 0 [] []) (tt s0 H0 0 [] []) (te s0 H0 0 [] []) (own.map (·.2))) (fLcS S T C F (own.map (·.2))) :=
  ⟨pe_lc hc hN hi.pi ok (fun s H C cl fp => by rw [← qg s H C cl fp]; exact (hg s H C cl fp).pg) (fun s H C cl fp => by rw [← qt s H C cl fp]; exact (ht s H C cl fp).pts) (fun s H C cl fp => by rw [← qe s H C cl fp]; exact (he s H C cl fp).pe) hs,
    sem_lc hi.sem (hg s0 H0 0 [] []).sem (ht s0 H0 0 [] []).sem (he s0 H0 0 [] []).sem hL⟩
theorem jp_setLc {i : Nat} {y : Str} {py : Pos} {elt tg iter : Expr} {ifs : List Expr} {scope : Scope} {own : List (Str × Nat)} {pos spos : Pos} {wi : TI} {g : Shared → Hp → Addr → List (Str × Addr) → List Addr → TG} {tt : Shared → Hp → Addr → List (Str × Addr) → List Addr → TT} {te : Shared → Hp → Addr → List (Str × Addr) → List Addr → TE} {S : Env → Rs (List PyData)} {T : Tgt} {L : List Nat} {C : Env → Rs Bool} {F : Env → Rs PyData} (hc : X.calm = true) (hN : X.N.Nodup) (hy : X.N[i]? = some y) (hyl : X.env.scope.names.lookup y = some .local)
    (hsw : swapsWith (.ListComp elt [⟨tg, iter, ifs, 0⟩] scope pos) (some (.Name y py)) spos.line X.env = pure true) (hi : JI ca X E true tg iter wi S) (ok : BlkOk X.N X.env.scope scope own)
    (hg : ∀ (s : Shared) (H : Hp) (D : Addr) (cl : List (Str × Addr)) (fp : List Addr), JG ca (X.blk s H scope (compEnvC scope cl D X.env) fp) tg (g s H D cl fp) T L) (ht : ∀ (s : Shared) (H : Hp) (D : Addr) (cl : List (Str × Addr)) (fp : List Addr), JC ca (X.blk s H scope (compEnvC scope cl D X.env) fp) E0 ifs (tt s H D cl fp) C)
    (he : ∀ (s : Shared) (H : Hp) (D : Addr) (cl : List (Str × Addr)) (fp : List Addr), JS ca (X.blk s H scope (compEnvC scope cl D X.env) fp) E0 elt (te s H D cl fp) F) (hL : ∀ i ∈ L, i ∈ own.map (·.2)) (s0 : Shared) (H0 : Hp) (hs : ∀ x, foldedSetIterable iter X.env x = pure x := by intro _; rfl)
    (qg : ∀ s H D cl fp, g s H D cl fp = g s0 H0 0 [] [] := by intro _ _ _ _ _; rfl) (qt : ∀ s H D cl fp, tt s H D cl fp = tt s0 H0 0 [] [] := by intro _ _ _ _ _; rfl) (qe : ∀ s H D cl fp, te s H D cl fp = te s0 H0 0 [] [] := by intro _ _ _ _ _; rfl) :
    JP ca X E (.Assign [.Name y py] (.ListComp elt [⟨tg, iter, ifs, 0⟩] scope pos) spos) (tAsg (tLc wi (g s0 H0 0 [] []) (tt s0 H0 0 [] []) (te s0 H0 0 [] []) (own.map (·.2))) (gName i)) (fSet i (fLcS S T C F (own.map (·.2)))) :=
  ⟨ps_setLc hc hN hy hyl hsw hi.pi ok (fun s H C cl fp => by rw [← qg s H C cl fp]; exact (hg s H C cl fp).pg) (fun s H C cl fp => by rw [← qt s H C cl fp]; exact (ht s H C cl fp).pts) (fun s H C cl fp => by rw [← qe s H C cl fp]; exact (he s H C cl fp).pe) hs,
    sem_set i (sem_lc hi.sem (hg s0 H0 0 [] []).sem (ht s0 H0 0 [] []).sem (he s0 H0 0 [] []).sem hL)⟩
end
end PF

namespace PF
open PySem L2

/-! ### calls -/
structure Callee (P : Program) (w : World) (K : PySem.W.Frag) (mg : Str → Option Value) (base : Heap) (ca : Nat → Addr) (x : Str) (k : Nat) (fF : List PyData → Rs Sl) (np : Nat) : Prop where
  ex : ∃ (f : Addr) (fd : FuncData) (ps : List Str), FnOk P w K mg base (L2.CX P w) k f fd ps (spF ⟨K, ca⟩ fF np) ∧ mg x = some (.ref f) ∧ PySem.W.keepIn K (.ref f) = true ∧ Binds K fd ps []
  len : ∀ ds, fF ds ≠ .stuck → ds.length = np
section
variable {ca : Nat → Addr} {X : Cx} {E : XK}
theorem jv_call {x : Str} {k np : Nat} {fF : List PyData → Rs Sl} {e : Expr} {es : List Expr} {t : TA} {Fa : Env → Rs (List PyData)} {p pos : Pos} (C : Callee X.prog X.w X.K X.mg X.base ca x k fF np) (hr : Room k X.A) (hx : Passes (L2.CX X.prog X.w) X E) (ha : JA ca X E (e :: es) t Fa)
    (hg : Gl X x := by rfl) (hdb : (x == ("__debug__" : Str)) = false := by decide) (he : starEach (e :: es) X.env = (false, eval e X.env) :: starEach es X.env := by rfl) (hpl : (backTo pos (starEach es X.env)).any (·.1) = false := by rfl) :
    JV ca X E (.Call (.Name x p) (e :: es) [] pos) (tCall (spF ⟨X.K, ca⟩ fF np) [] E t) (fCall fF Fa) := by
  obtain ⟨f, fd, ps, F, hm, hk, hb⟩ := C.ex
  exact ⟨pe_call F hr hg hm hk hb .nil hx ha.pa hdb he hpl, sem_callF ha.sem C.len⟩
variable {a b : Expr} {ta tb : TE} {Fa Fb : Env → Rs PyData} {p pos p2 : Pos}
theorem js_len (ha : JB ca X E a ta Fa) (hm : X.mg "len" = none) (hg : Gl X "len" := by rfl) (hst : starEach [a] X.env = (false, eval a X.env) :: starEach [] X.env := by rfl) : JS ca X E (.Call (.Name "len" p) [a] [] pos) (tCB (fun xs H Q => ∃ p ys, xs = [.ref p] ∧ (SqL X.K H p ys ∨ SqT X.K H p ys) ∧ Q (.int ys.length) H) (tCons ta tNil)) (fUn lenD Fa) :=
  ⟨pe_callB call_len_seq hg hm PySem.boot_len (pa_cons ha.pe pa_nil hst) (he := hst), sem_call1 callsem_len RS.mono ha.sem⟩
theorem js_abs (ha : JB ca X E a ta Fa) (hm : X.mg "abs" = none) (hg : Gl X "abs" := by rfl) (hst : starEach [a] X.env = (false, eval a X.env) :: starEach [] X.env := by rfl) : JS ca X E (.Call (.Name "abs" p) [a] [] pos) (tCB (fun xs H Q => ∃ i, xs = [.int i] ∧ Q (.int (if i < 0 then -i else i)) H) (tCons ta tNil)) (fUn absD Fa) :=
  ⟨pe_callB call_abs hg hm (by decide +kernel) (pa_cons ha.pe pa_nil hst) (he := hst), sem_call1 callsem_abs RS.mono ha.sem⟩
theorem js_intc (ha : JB ca X E a ta Fa) (hm : X.mg "int" = none) (hg : Gl X "int" := by rfl) (hst : starEach [a] X.env = (false, eval a X.env) :: starEach [] X.env := by rfl) : JS ca X E (.Call (.Name "int" p) [a] [] pos) (tCB (fun xs H Q => (∃ i, xs = [.int i] ∧ Q (.int i) H) ∨ ∃ k, xs = [.bl k] ∧ Q (.int (if k then 1 else 0)) H) (tCons ta tNil)) (fUn int1D Fa) :=
  ⟨pe_callTy call_int1 hg hm (by decide +kernel) (pa_cons ha.pe pa_nil hst) (he := hst), sem_call1 callsem_int RS.mono ha.sem⟩
theorem jv_list (ha : JB ca X E a ta Fa) (hm : X.mg "list" = none) (hg : Gl X "list" := by rfl) (hst : starEach [a] X.env = (false, eval a X.env) :: starEach [] X.env := by rfl) : JV ca X E (.Call (.Name "list" p) [a] [] pos) (tCB (fun xs H Q => ∃ p ys, xs = [.ref p] ∧ (SqL X.K H p ys ∨ SqT X.K H p ys) ∧ ∀ l, H l = none → Q (.ref l) (upd H l (.lst ys))) (tCons ta tNil)) (fUn listD Fa) :=
  ⟨pe_callTy call_list_of hg hm (by decide +kernel) (pa_cons ha.pe pa_nil hst) (he := hst), sem_call1 callsem_list RV.mono' ha.sem⟩
theorem js_tuplec (ha : JB ca X E a ta Fa) (hm : X.mg "tuple" = none) (hg : Gl X "tuple" := by rfl) (hst : starEach [a] X.env = (false, eval a X.env) :: starEach [] X.env := by rfl) : JS ca X E (.Call (.Name "tuple" p) [a] [] pos) (tCB (fun xs H Q => ∃ p ys, xs = [.ref p] ∧ ((SqL X.K H p ys ∧ ∀ l, H l = none → Q (.ref l) (upd H l (.tup ys))) ∨ (SqT X.K H p ys ∧ Q (.ref p) H))) (tCons ta tNil)) (fUn tupleD Fa) :=
  ⟨pe_callTy call_tuple_of hg hm (by decide +kernel) (pa_cons ha.pe pa_nil hst) (he := hst), sem_call1 callsem_tuple RS.mono ha.sem⟩
theorem js_sum (ha : JB ca X E a ta Fa) (hm : X.mg "sum" = none) (hc : X.calm = true) (hg : Gl X "sum" := by rfl) (hst : starEach [a] X.env = (false, eval a X.env) :: starEach [] X.env := by rfl) : JS ca X E (.Call (.Name "sum" p) [a] [] pos) (tCB (rSum X.K) (tCons ta tNil)) (fUn sumD Fa) :=
  ⟨pe_callB (cr_sum hc) hg hm (by decide +kernel) (pa_cons ha.pe pa_nil hst) (he := hst), sem_call1 callsem_sum RS.mono ha.sem⟩
theorem js_min (ha : JB ca X E a ta Fa) (hb : JB ca X E b tb Fb) (hm : X.mg "min" = none) (hc : X.calm = true) (hg : Gl X "min" := by rfl) (hst : starEach [a, b] X.env = (false, eval a X.env) :: starEach [b] X.env := by rfl) (hst2 : starEach [b] X.env = (false, eval b X.env) :: starEach [] X.env := by rfl) (hpl : (backTo pos (starEach [b] X.env)).any (·.1) = false := by rfl) :
    JS ca X E (.Call (.Name "min" p) [a, b] [] pos) (tCB (fun xs H Q => ∃ i j, xs = [.int i, .int j] ∧ Q (.int (if j < i then j else i)) H) (tCons ta (tCons tb tNil))) (fOp min2D Fa Fb) :=
  ⟨pe_callB (call_min2 hc) hg hm (by decide +kernel) (pa_cons ha.pe (pa_cons hb.pe pa_nil hst2) hst) (he := hst) (hpl := hpl), sem_call2 callsem_min RS.mono ha.sem hb.sem⟩
theorem js_max (ha : JB ca X E a ta Fa) (hb : JB ca X E b tb Fb) (hm : X.mg "max" = none) (hc : X.calm = true) (hg : Gl X "max" := by rfl) (hst : starEach [a, b] X.env = (false, eval a X.env) :: starEach [b] X.env := by rfl) (hst2 : starEach [b] X.env = (false, eval b X.env) :: starEach [] X.env := by rfl) (hpl : (backTo pos (starEach [b] X.env)).any (·.1) = false := by rfl) :
    JS ca X E (.Call (.Name "max" p) [a, b] [] pos) (tCB (fun xs H Q => ∃ i j, xs = [.int i, .int j] ∧ Q (.int (if j > i then j else i)) H) (tCons ta (tCons tb tNil))) (fOp max2D Fa Fb) :=
  ⟨pe_callB (call_max2 hc) hg hm (by decide +kernel) (pa_cons ha.pe (pa_cons hb.pe pa_nil hst2) hst) (he := hst) (hpl := hpl), sem_call2 callsem_max RS.mono ha.sem hb.sem⟩
/-- isinstance(x, T), T a built-in class -/
theorem isiD_ok {T : String} {d s : PyData} (h : isiD T d = .ok s) : ∃ b, kitB (tyN d) T = some b ∧ s = .bool b := by
  unfold isiD at h
  split at h
  · rename_i b hb
    cases h
    exact ⟨b, hb, rfl⟩
  · cases h
theorem js_isi (T : String) {x : Str} (ha : JB ca X E a ta Fa) (hm : X.mg "isinstance" = none) (hT : X.mg x = none) (hv : bootBuiltins x = some (.type T)) (hgT : Gl X x := by rfl) (hg : Gl X "isinstance" := by rfl) (hn : x ≠ "__name__" := by decide) (hd : (x == ("__debug__" : Str)) = false := by decide)
    (hst : starEach [a, .Name x p2] X.env = (false, eval a X.env) :: starEach [.Name x p2] X.env := by rfl) (hst2 : starEach [.Name x p2] X.env = (false, eval (.Name x p2) X.env) :: starEach [] X.env := by rfl) :
    JS ca X E (.Call (.Name "isinstance" p) [a, .Name x p2] [] pos) (tCB (rIsi X.K) (tCons ta (tCons (tC (.ty T)) tNil))) (fUn (isiD T) Fa) :=
  ⟨pe_callB call_isi hg hm (by decide +kernel) (pa_cons ha.pe (pa_cons (pe_bltn (v := .ty T) hgT hT hv rfl hn hd) pa_nil hst2) hst) (he := hst), fun G H ρ σ rep hns Q ok er => ha.sem.use rep hns er fun d ed e1 G' H' v n r q hk _ => by
    cases hi : isiD T d with
    | stuck => exact absurd hi hk
    | err z => unfold isiD at hi; split at hi <;> cases hi
    | ok s =>
      obtain ⟨b, hb, rfl⟩ := isiD_ok hi
      exact ⟨v, .ty T, _, .type T, b, rfl, .ty T, db_ty n.gh q, kit_ty hb, ok _ (e1.trans hi) G' H' _ n (.bl b)⟩⟩
end
/-! ### freezing, told -/
def fFz (i : Nat) (F : Env → Rs Out) : Env → Rs Out := fun ρ => F (fz1 i ρ)
theorem jp_fzF {ca : Nat → Addr} {X : Cx} {E : XK} {st : Stmt} {t : TS} {F : Env → Rs Out} (i : Nat) (h : JP ca X E st t F) : JP ca X E st t (fFz i F) := jp_fz i h
/-! ### the end -/
theorem callee_of {P : Program} {w : World} {K : PySem.W.Frag} {mg : Str → Option Value} {base : Heap} {ca : Nat → Addr} {x qual y : Str} {st : Stmt} {f : Addr} {fd : FuncData} {ps : List Str} {k np n : Nat} {F : Env → Rs Out} (Fu : Fun K y qual st f fd) (h : FnOk P w K mg base (L2.CX P w) k f fd ps (spF ⟨K, ca⟩ (fnOf np n F) np))
    (hm : mg x = some (.ref f)) (hb : Binds K fd ps []) : Callee P w K mg base ca x k (fnOf np n F) np := ⟨⟨f, fd, ps, h, hm, Fu.kp, hb⟩, fun ds => fnOf_len ds⟩
/-- what the law promises -/
def spTrue (K : PySem.W.Frag) : Sp := fun vs H Q _ => ∃ (a : Addr) (ns : List Int), vs = [.ref a] ∧ SqL K H a (ns.map V.int) ∧ ns.length ≤ 63 ∧ ∀ H', Q (.bl true) H'
theorem dpall_of_ints {K : PySem.W.Frag} {G : Hp} : ∀ ns : List Int, DpAll K G (ns.map V.int) (ns.map PyData.int)
  | [] => .nil
  | i :: ns => .cons (.int i) (dpall_of_ints ns)
theorem law_of {P : Program} {w : World} {K : PySem.W.Frag} {mg : Str → Option Value} {base : Heap} {ca : Nat → Addr} {k : Nat} {f : Addr} {fd : FuncData} {ps : List Str} {fF : List PyData → Rs Sl} (h : FnOk P w K mg base (L2.CX P w) k f fd ps (spF ⟨K, ca⟩ fF 1))
    (ht : ∀ ns : List Int, ns.length ≤ 63 → fF [.list (ns.map .int)] = .ok (.sh (.bool true))) : FnOk P w K mg base (L2.CX P w) k f fd ps (spTrue K) :=
  h.imp fun vs H Q E hq => by
    obtain ⟨a, ns, e, hs, hl, q⟩ := hq
    have e0 := ht ns hl
    show ∃ G ds, _
    refine ⟨H, [.list (ns.map .int)], Ex.refl H, by rw [e]; exact .cons (.lst hs (dpall_of_ints ns)) .nil, rfl, fun z => (by rw [e0] at z; cases z), fun s es G' H' v n r => ?_, fun x ex => (by rw [e0] at ex; cases ex)⟩
    rw [e0] at es
    cases es
    have r : Dp K G' v (.bool true) := r
    rw [Dp.bl_v r]
    exact q H'
end PF

namespace PF
open PySem L2

/-! ### any, all of ints and truths -/
def truD : PyData → Option Bool
  | .int i => some (i != 0)
  | .bool b => some b
  | _ => none
def tru (d : PyData) : Bool := (truD d).getD false
def anyD : PyData → Rs PyData
  | .list ds => if ds.all (fun d => (truD d).isSome) = true then .ok (.bool (ds.any tru)) else .stuck
  | .tuple ds => if ds.all (fun d => (truD d).isSome) = true then .ok (.bool (ds.any tru)) else .stuck
  | _ => .stuck
def allD : PyData → Rs PyData
  | .list ds => if ds.all (fun d => (truD d).isSome) = true then .ok (.bool (ds.all tru)) else .stuck
  | .tuple ds => if ds.all (fun d => (truD d).isSome) = true then .ok (.bool (ds.all tru)) else .stuck
  | _ => .stuck
def truN (ds : List PyData) (i : Nat) : Bool := ((ds[i]?).map tru).getD false
theorem any_truN : ∀ ds : List PyData, (List.range ds.length).any (truN ds) = ds.any tru
  | [] => rfl
  | d :: ds => by
    rw [List.length_cons, List.range_succ_eq_map, List.any_cons, List.any_map, List.any_cons, ← any_truN ds]
    rfl
theorem all_truN : ∀ ds : List PyData, (List.range ds.length).all (truN ds) = ds.all tru
  | [] => rfl
  | d :: ds => by
    rw [List.length_cons, List.range_succ_eq_map, List.all_cons, List.all_map, List.all_cons, ← all_truN ds]
    rfl
def rTru (K : PySem.W.Frag) (f : List PyData → Bool) : List V → Hp → VK → Prop := fun vs H Q => ∃ (a : Addr) (ys : List V) (ds : List PyData), vs = [V.ref a] ∧ (SqL K H a ys ∨ SqT K H a ys) ∧ DpAll K H ys ds ∧ ds.all (fun d => (truD d).isSome) = true ∧ Q (.bl (f ds)) H
theorem truth_ds {prog : Program} {w : World} {A : Around} {K : PySem.W.Frag} {H : Hp} {ys : List V} {ds : List PyData} {its : List Value} (r : Vals ys its) (q : DpAll K H ys ds) (h : ds.all (fun d => (truD d).isSome) = true) :
    TruthOf prog w A (fun i v => its.toArray[i]? = some v) (truN ds) := fun i v s Q E hv hq => by
  have hv' : its[i]? = some v := by simpa using hv
  have hl : i < ys.length := by
    rw [r.length]
    exact (List.getElem?_eq_some_iff.mp hv').1
  obtain ⟨u, e1, ru⟩ := r.get (List.getElem?_eq_getElem hl)
  rw [hv'] at e1
  cases e1
  obtain ⟨d, e2, hd⟩ := DpAll.get q (List.getElem?_eq_getElem hl)
  have ht : (truD d).isSome = true := List.all_eq_true.mp h d (List.mem_of_getElem? e2)
  have eq : truN ds i = tru d := by unfold truN; rw [e2]; rfl
  rw [eq] at hq
  cases d with
  | int k =>
    rw [Dp.int_v hd] at ru
    obtain ⟨t, rfl⟩ := ru
    exact PyProof.Rows.truthy_int hq
  | bool b =>
    rw [Dp.bl_v hd] at ru
    cases (show _ = Value.bool b from ru)
    exact wpAny_truthy_bool hq
  | none => cases ht
  | str k => cases ht
  | list k => cases ht
  | tuple k => cases ht
  | dict k => cases ht
theorem iter_anyT {prog : Program} {w : World} {A : Around} {E : Value → Shared → Prop} {s : Shared} {l : Addr} {items : Array Value} {Q : Value → Shared → Prop} (hl : s.heap.IsTuple l items)
    (h : ∀ s₂ : Shared, s₂ = { s with heap := s.heap.push { cls := .type "tuple_iterator", data := .fields #[.ref l, .int 0 0] } } →
      (s₂.heap.IsTupleIter s.heap.objs.size l 0 ∧ s₂.heap.IsTuple l items) → l ≠ s.heap.objs.size → Q (.ref s.heap.objs.size) s₂) : wpAny (model prog w) A (pyIter (.ref l)) Q E s := by
  have hlt : l < s.heap.objs.size := by obtain ⟨_, e, _⟩ := hl; exact Heap.lt_size e
  exact wpAny_pyIter_tuple hl (h _ rfl ⟨⟨_, Heap.get?_push_size _ rfl, rfl, rfl⟩, hl.extBut (b := s.heap.objs.size) (fun b o hb e => Heap.get?_push_of_some _ e) (Nat.ne_of_lt hlt)⟩ (Nat.ne_of_lt hlt))
section
variable {X : Cx}
theorem cr_anyD (hc : X.calm = true) : CallR X (.builtin "any") (rTru X.K fun ds => ds.any tru) := by
  intro pins s σ H vs us Q I r h
  obtain ⟨a, ys, ds, rfl, hs, hd, ht, q⟩ := h
  rw [Vals.ref1 r]
  rcases hs with hs | hs
  · obtain ⟨its, rv, hl, _⟩ := I.list hs
    refine call_any_walk (iter_any hl.isList fun s₂ e2 st hne => ?_)
    subst e2
    refine ⟨_, _, _, _, _, _, _, rfl, Walks.list (A := X.A.in1) (I.ok.hd hc) _ a hne its.toArray, st, truth_ds rv hd ht, fun h' tk hk => ?_⟩
    refine ⟨.bl _, H, I.kept fun b o eo => hk b o (fun hmem => ?_) (Heap.get?_push_of_some _ eo), ?_, q⟩
    · rcases List.mem_cons.mp hmem with e1 | hmem
      · exact absurd (e1 ▸ Heap.lt_size eo) (Nat.lt_irrefl _)
      · cases hmem
    · show Value.bool _ = Value.bool (ds.any tru)
      rw [← any_truN, List.size_toArray, ← rv.length, DpAll.length hd]
  · obtain ⟨its, rv, hl, _⟩ := I.tuple hs
    refine call_any_walk (iter_anyT hl fun s₂ e2 st hne => ?_)
    subst e2
    refine ⟨_, _, _, _, _, _, _, rfl, Walks.tuple (A := X.A.in1) (I.ok.hd hc) _ a hne its.toArray, st, truth_ds rv hd ht, fun h' tk hk => ?_⟩
    refine ⟨.bl _, H, I.kept fun b o eo => hk b o (fun hmem => ?_) (Heap.get?_push_of_some _ eo), ?_, q⟩
    · rcases List.mem_cons.mp hmem with e1 | hmem
      · exact absurd (e1 ▸ Heap.lt_size eo) (Nat.lt_irrefl _)
      · cases hmem
    · show Value.bool _ = Value.bool (ds.any tru)
      rw [← any_truN, List.size_toArray, ← rv.length, DpAll.length hd]
theorem cr_allD (hc : X.calm = true) : CallR X (.builtin "all") (rTru X.K fun ds => ds.all tru) := by
  intro pins s σ H vs us Q I r h
  obtain ⟨a, ys, ds, rfl, hs, hd, ht, q⟩ := h
  rw [Vals.ref1 r]
  rcases hs with hs | hs
  · obtain ⟨its, rv, hl, _⟩ := I.list hs
    refine call_all_walk (iter_any hl.isList fun s₂ e2 st hne => ?_)
    subst e2
    refine ⟨_, _, _, _, _, _, _, rfl, Walks.list (A := X.A.in1) (I.ok.hd hc) _ a hne its.toArray, st, truth_ds rv hd ht, fun h' tk hk => ?_⟩
    refine ⟨.bl _, H, I.kept fun b o eo => hk b o (fun hmem => ?_) (Heap.get?_push_of_some _ eo), ?_, q⟩
    · rcases List.mem_cons.mp hmem with e1 | hmem
      · exact absurd (e1 ▸ Heap.lt_size eo) (Nat.lt_irrefl _)
      · cases hmem
    · show Value.bool _ = Value.bool (ds.all tru)
      rw [← all_truN, List.size_toArray, ← rv.length, DpAll.length hd]
  · obtain ⟨its, rv, hl, _⟩ := I.tuple hs
    refine call_all_walk (iter_anyT hl fun s₂ e2 st hne => ?_)
    subst e2
    refine ⟨_, _, _, _, _, _, _, rfl, Walks.tuple (A := X.A.in1) (I.ok.hd hc) _ a hne its.toArray, st, truth_ds rv hd ht, fun h' tk hk => ?_⟩
    refine ⟨.bl _, H, I.kept fun b o eo => hk b o (fun hmem => ?_) (Heap.get?_push_of_some _ eo), ?_, q⟩
    · rcases List.mem_cons.mp hmem with e1 | hmem
      · exact absurd (e1 ▸ Heap.lt_size eo) (Nat.lt_irrefl _)
      · cases hmem
    · show Value.bool _ = Value.bool (ds.all tru)
      rw [← all_truN, List.size_toArray, ← rv.length, DpAll.length hd]
end
theorem db_seq {K : PySem.W.Frag} {G H : Hp} {x : V} {ds : List PyData} {b : Bool} (e : Ex G H) (h : Db K G H x (if b then .list ds else .tuple ds)) : ∃ a ys, x = .ref a ∧ (SqL K H a ys ∨ SqT K H a ys) ∧ DpAll K H ys ds := by
  cases b with
  | true =>
    obtain ⟨a, ys, rfl, h1, h2⟩ := db_list e h
    exact ⟨a, ys, rfl, .inl h1, DpAll.ex e h2⟩
  | false =>
    obtain ⟨a, ys, rfl, h1, h2⟩ := db_tup h
    exact ⟨a, ys, rfl, .inr (Ex.sqt e h1), DpAll.ex e h2⟩
theorem callsem_any {c : Pc} : CallSem c (rTru c.K fun ds => ds.any tru) anyD (RS c) where
  go := fun G H x a s e da hs Q q => by
    unfold anyD at hs
    split at hs
    · split at hs
      · rename_i ds h
        cases hs
        obtain ⟨p, ys, rfl, h1, h2⟩ := db_seq (b := true) e da
        exact ⟨p, ys, ds, rfl, h1, h2, h, q G H _ (Nx.refl e) (.bl _)⟩
      · cases hs
    · split at hs
      · rename_i ds h
        cases hs
        obtain ⟨p, ys, rfl, h1, h2⟩ := db_seq (b := false) e da
        exact ⟨p, ys, ds, rfl, h1, h2, h, q G H _ (Nx.refl e) (.bl _)⟩
      · cases hs
    · cases hs
  ne := fun a x h => by
    unfold anyD at h
    split at h
    · split at h <;> cases h
    · split at h <;> cases h
    · cases h
theorem callsem_all {c : Pc} : CallSem c (rTru c.K fun ds => ds.all tru) allD (RS c) where
  go := fun G H x a s e da hs Q q => by
    unfold allD at hs
    split at hs
    · split at hs
      · rename_i ds h
        cases hs
        obtain ⟨p, ys, rfl, h1, h2⟩ := db_seq (b := true) e da
        exact ⟨p, ys, ds, rfl, h1, h2, h, q G H _ (Nx.refl e) (.bl _)⟩
      · cases hs
    · split at hs
      · rename_i ds h
        cases hs
        obtain ⟨p, ys, rfl, h1, h2⟩ := db_seq (b := false) e da
        exact ⟨p, ys, ds, rfl, h1, h2, h, q G H _ (Nx.refl e) (.bl _)⟩
      · cases hs
    · cases hs
  ne := fun a x h => by
    unfold allD at h
    split at h
    · split at h <;> cases h
    · split at h <;> cases h
    · cases h
section
variable {ca : Nat → Addr} {X : Cx} {E : XK} {a : Expr} {ta : TE} {Fa : Env → Rs PyData} {p pos : Pos}
theorem js_any (ha : JB ca X E a ta Fa) (hm : X.mg "any" = none) (hc : X.calm = true) (hg : Gl X "any" := by rfl) (hst : starEach [a] X.env = (false, eval a X.env) :: starEach [] X.env := by rfl) : JS ca X E (.Call (.Name "any" p) [a] [] pos) (tCB (rTru X.K fun ds => ds.any tru) (tCons ta tNil)) (fUn anyD Fa) :=
  ⟨pe_callB (cr_anyD hc) hg hm (by decide +kernel) (pa_cons ha.pe pa_nil hst) (he := hst), sem_call1 callsem_any RS.mono ha.sem⟩
theorem js_all (ha : JB ca X E a ta Fa) (hm : X.mg "all" = none) (hc : X.calm = true) (hg : Gl X "all" := by rfl) (hst : starEach [a] X.env = (false, eval a X.env) :: starEach [] X.env := by rfl) : JS ca X E (.Call (.Name "all" p) [a] [] pos) (tCB (rTru X.K fun ds => ds.all tru) (tCons ta tNil)) (fUn allD Fa) :=
  ⟨pe_callB (cr_allD hc) hg hm (by decide +kernel) (pa_cons ha.pe pa_nil hst) (he := hst), sem_call1 callsem_all RS.mono ha.sem⟩
end

/-! ### what changes a list of our own -/
def ownL : Option Sl → Rs (List PyData)
  | some (.ol ds) => .ok ds
  | _ => .stuck
theorem ownL_ok {o : Option Sl} {β : Type} {k : List PyData → Rs β} (h : (ownL o >>= k) ≠ .stuck) : ∃ ds, o = some (.ol ds) := by
  unfold ownL at h
  split at h
  · exact ⟨_, rfl⟩
  · exact absurd rfl h
theorem mut_ol {c : Pc} {G0 H0 G H : Hp} {ρ : Env} {σ : L2.St} {i : Nat} {ds ds' : List PyData} {p : Addr} {xs xs' : List V} (rep : Rep c G H ρ σ) (en : Ent G0 H0 G H ρ σ) (hs : ρ[i]? = some (.ol ds)) (hp : σ[i]? = some (some (.ref p)))
    (gp : G p = none) (hH : H p = some (.lst xs)) (q : DpAll c.K G xs' ds') : Rep c G (upd H p (.lst xs')) (ρ.set i (.ol ds')) σ ∧ Ent G0 H0 G (upd H p (.lst xs')) (ρ.set i (.ol ds')) σ := by
  have h0 := en.own i _ p hs rfl hp
  refine ⟨rep.mut hs rfl hp gp ⟨p, xs', rfl, gp, upd_same, q⟩, ⟨⟨en.nx.g, fun a u e => ?_, fun a u e => ?_, en.nx.fr⟩, fun j s r e w f => ?_⟩⟩
  · rw [upd_ne (ne_of_none e h0)]
    exact en.nx.h a u e
  · rw [upd_ne (ne_of_none e gp)]
    exact rep.gh a u e
  · by_cases hij : i = j
    · subst hij
      rw [hp] at f
      cases f
      exact h0
    · rw [List.getElem?_set, if_neg hij] at e
      exact en.own j s r e w f
/-- a method that changes the list -/
def fMut (i : Nat) (f : List PyData → List PyData → Rs (List PyData)) (F : Env → Rs (List PyData)) : Env → Rs Out := fun ρ => ownL ρ[i]? >>= fun ds => F ρ >>= fun as => f ds as >>= fun ds' => .ok (.nx (ρ.set i (.ol ds')))
structure MutSem (K : PySem.W.Frag) (r : V → List V → Hp → VK → Prop) (f : List PyData → List PyData → Rs (List PyData)) : Prop where
  go : ∀ G H p xs ds as vs ds', Ex G H → H p = some (.lst xs) → DpAll K G xs ds → DpAll K G vs as → f ds as = .ok ds' → ∀ Q : VK, (∀ xs' w, DpAll K G xs' ds' → Q w (upd H p (.lst xs'))) → r (.ref p) vs H Q
  ne : ∀ ds as x, f ds as ≠ .err x
theorem sem_mut {c : Pc} {E : XK} {r : V → List V → Hp → VK → Prop} {f : List PyData → List PyData → Rs (List PyData)} {t : TA} {F : Env → Rs (List PyData)} (i : Nat) (m : MutSem c.K r f) (h : SemG c E t F (RA c)) : SemP c E (tDrop (tBM c.K "list" r (tVar i) t)) (fMut i f F) := by
  intro G0 H0 G H ρ σ rep en hns D nx rt er
  obtain ⟨ds, hs⟩ := ownL_ok hns
  have e0 : fMut i f F ρ = (F ρ >>= fun as => f ds as >>= fun ds' => .ok (.nx (ρ.set i (.ol ds')))) := by unfold fMut; rw [hs]; rfl
  rw [e0] at hns nx er
  obtain ⟨o, e1, p, xs, rfl, gp, hp, q⟩ := rep.sl i _ hs
  refine ⟨.ref p, e1, .inl ⟨rfl, xs, .inl (.inl hp)⟩, ?_⟩
  refine h.use rep hns (fun x e G' H' cl dd n => er x e G' H' cl dd (en.nx.trans n)) fun as es e2 G1 H1 vs n1 r1 q1 hk er1 => ?_
  obtain ⟨o', e3, p', xs', z, gp1, hp1, qq⟩ := r1.sl i _ hs
  rw [e1] at e3
  cases e3
  cases z
  cases hf : f ds as with
  | stuck => exact absurd (by rw [hf]; rfl) hk
  | err x => exact absurd hf (m.ne ds as x)
  | ok ds' =>
    refine m.go G1 H1 p xs' ds as vs ds' n1.gh hp1 qq q1 hf _ fun ys w hy => ?_
    obtain ⟨r2, n2⟩ := mut_ol r1 (en.go n1) hs e1 gp1 hp1 hy
    exact nx _ (by rw [e2, hf]; rfl) G1 _ σ r2 n2
def appD (ds as : List PyData) : Rs (List PyData) := match as with
  | [d] => if ds.length < lim then .ok (ds ++ [d]) else .stuck
  | _ => .stuck
def clrD (_ as : List PyData) : Rs (List PyData) := match as with
  | [] => .ok []
  | _ => .stuck
def revsD (ds as : List PyData) : Rs (List PyData) := match as with
  | [] => .ok ds.reverse
  | _ => .stuck
def insD (ds as : List PyData) : Rs (List PyData) := match as with
  | [.int i, d] => if ds.length < lim ∧ 0 ≤ i ∧ i < 2 ^ 63 then .ok (ds.take i.toNat ++ [d] ++ ds.drop i.toNat) else .stuck
  | _ => .stuck
def remD (ds as : List PyData) : Rs (List PyData) := match as with
  | [d] => if SeqAt.shaped d = true ∧ SeqAt.shaped (.list ds) = true then match ds.findIdx? (fun z => PyData.eqv z d) with
    | some j => .ok (ds.eraseIdx j)
    | none => .stuck
    else .stuck
  | _ => .stuck
def popAtD (ds as : List PyData) : Rs (List PyData) := match as with
  | [.int i] => if 0 ≤ i ∧ i < ds.length ∧ ds.length ≤ lim then .ok (ds.eraseIdx i.toNat) else .stuck
  | _ => .stuck
theorem mut_app {K : PySem.W.Frag} : MutSem K rAppend appD where
  go := fun G H p xs ds as vs ds' e hp q q1 hf Q k => by
    unfold appD at hf
    split at hf
    · split at hf
      · rename_i d hl
        cases hf
        cases q1 with
        | cons qd qn =>
          cases qn
          exact ⟨p, xs, _, rfl, rfl, hp, lim_lt (by rw [DpAll.length q]; exact hl), k _ _ (DpAll.append q (.cons qd .nil))⟩
      · cases hf
    · cases hf
  ne := fun ds as x h => by
    unfold appD at h
    split at h
    · split at h <;> cases h
    · cases h
theorem mut_clr {K : PySem.W.Frag} : MutSem K rClear clrD where
  go := fun G H p xs ds as vs ds' e hp q q1 hf Q k => by
    unfold clrD at hf
    split at hf
    · cases hf
      cases q1
      exact ⟨p, xs, rfl, rfl, hp, k _ _ .nil⟩
    · cases hf
  ne := fun ds as x h => by
    unfold clrD at h
    split at h <;> cases h
theorem mut_revs {K : PySem.W.Frag} : MutSem K rReverse revsD where
  go := fun G H p xs ds as vs ds' e hp q q1 hf Q k => by
    unfold revsD at hf
    split at hf
    · cases hf
      cases q1
      exact ⟨p, xs, rfl, rfl, hp, k _ _ (DpAll.reverse q)⟩
    · cases hf
  ne := fun ds as x h => by
    unfold revsD at h
    split at h <;> cases h
def rInsert : V → List V → Hp → VK → Prop := fun x vs H Q => ∃ (l : Addr) (xs : List V) (i : Int) (y : V), x = .ref l ∧ vs = [.int i, y] ∧ H l = some (.lst xs) ∧ xs.length < sizeLine ∧ 0 ≤ i ∧ i < 2 ^ 63 ∧
    Q .non (upd H l (.lst (xs.take i.toNat ++ [y] ++ xs.drop i.toNat)))
theorem mut_ins {K : PySem.W.Frag} : MutSem K rInsert insD where
  go := fun G H p xs ds as vs ds' e hp q q1 hf Q k => by
    unfold insD at hf
    split at hf
    · split at hf
      · rename_i i d hl
        cases hf
        cases q1 with
        | cons qi qn =>
          cases qn with
          | cons qd qn =>
            cases qn
            cases Dp.int_v qi
            exact ⟨p, xs, i, _, rfl, rfl, hp, lim_lt (by rw [DpAll.length q]; exact hl.1), hl.2.1, hl.2.2, k _ _ (DpAll.append (DpAll.append (DpAll.take _ q) (.cons qd .nil)) (DpAll.drop _ q))⟩
      · cases hf
    · cases hf
  ne := fun ds as x h => by
    unfold insD at h
    split at h
    · split at h <;> cases h
    · cases h
theorem mut_popAt {K : PySem.W.Frag} : MutSem K rPopAt popAtD where
  go := fun G H p xs ds as vs ds' e hp q q1 hf Q k => by
    unfold popAtD at hf
    split at hf
    · split at hf
      · rename_i i hl
        cases hf
        cases q1 with
        | cons qi qn =>
          cases qn
          cases Dp.int_v qi
          have e2 := DpAll.length q
          have hlt : i.toNat < xs.length := by omega
          have hz : (lim : Nat) < 2 ^ 63 := by decide
          exact ⟨p, xs, i, i.toNat, xs[i.toNat], rfl, rfl, hp, by omega, by have := hl.2.2; omega, seqIndex_of hl.1 (by omega), List.getElem?_eq_getElem hlt, k _ _ (DpAll.eraseIdx _ q)⟩
      · cases hf
    · cases hf
  ne := fun ds as x h => by
    unfold popAtD at h
    split at h
    · split at h <;> cases h
    · cases h
def rRemD (K : PySem.W.Frag) : V → List V → Hp → VK → Prop := fun x vs H Q => ∃ (l : Addr) (xs : List V) (y : V) (d : PyData) (ds : List PyData) (j : Nat) (z : PyData), x = .ref l ∧ vs = [y] ∧ H l = some (.lst xs) ∧ DpAll K H xs ds ∧ Dp K H y d ∧
  SeqAt.shaped (.list ds) = true ∧ SeqAt.shaped d = true ∧ ds[j]? = some z ∧ PyData.eqv z d = true ∧ (∀ (m : Nat) (z' : PyData), m < j → ds[m]? = some z' → PyData.eqv z' d = false) ∧ Q .non (upd H l (.lst (xs.eraseIdx j)))
theorem mt_removeD {X : Cx} (hu : X.A.units + 65 < cLine) : MtR X "list.remove" (rRemD X.K) := by
  intro pins s σ H x xs0 v us Q I rx rxs h
  obtain ⟨a, xs, y, d, ds, j, z, rfl, rfl, hH, ha, hy, sl, sd, hz, hzj, hno, q⟩ := h
  cases rx
  obtain ⟨uy, rfl, ry⟩ := rxs.one
  obtain ⟨bs, r1⟩ := Dp.reads I d y uy hy ry
  have hxs : PyData.canLayAll0 ds = true := SeqAt.canLay_of_shaped sl
  have hroom : X.A.units + 1 + min (PyData.depthAll ds) d.depth < cLine := PyProof.Rows.room_in_shaped sd hu
  obtain ⟨hlen, its, n, rv, hl, ho⟩ := I.lstM hH
  obtain ⟨as, h4⟩ := Dp.readsAll I ds _ its ha rv
  have hn : its.length = ds.length := SeqAt.ReadsAll.length ds its as h4
  have hmap : its.map (SeqAt.readOf s.heap) = ds := SeqAt.readsAll_map ds its as hxs h4
  obtain ⟨hjd, _⟩ := List.getElem?_eq_some_iff.mp hz
  have hjl : j < its.length := by omega
  have hj : j < its.toArray.size := by simpa using hjl
  have at_ : ∀ (m : Nat) (hm : m < its.toArray.size) (z' : PyData), ds[m]? = some z' → SeqAt.readOf s.heap its.toArray[m] = z' := by
    intro m hm z' hz'
    have hml : m < its.length := by simpa using hm
    rw [← hmap, List.getElem?_map, List.getElem?_eq_getElem hml] at hz'
    have e1 : SeqAt.readOf s.heap its[m] = z' := Option.some.inj (show some (SeqAt.readOf s.heap its[m]) = some z' from hz')
    simpa using e1
  refine call_meets PySem.F.slot_list_remove ⟨_, ho, rfl⟩ PySem.F.entry_list_remove (PySem.F.args_list_remove_2 _ _)
    (SeqAt.list_removeAt a its.toArray n none #[] uy (fun u => PyData.eqv (SeqAt.readOf s.heap u) d) j hj ?_ ?_ (by rw [List.size_toArray]; omega)) ⟨ho, SeqAt.items_eqAt (vs := its.toArray) (show ReadsAll s.heap its.toArray.toList ds as from h4) r1 hxs (SeqAt.canLay_of_shaped sd) hroom, ?_⟩
  · show PyData.eqv (SeqAt.readOf s.heap its.toArray[j]) d = true
    rw [at_ j hj z hz]
    exact hzj
  · intro m hm hmj
    have hmd : m < ds.length := by omega
    have hz' : ds[m]? = some ds[m] := List.getElem?_eq_getElem hmd
    show PyData.eqv (SeqAt.readOf s.heap its.toArray[m]) d = false
    rw [at_ m hm _ hz']
    exact hno m _ hmj hz'
  · refine ⟨.non, _, I.lset (its' := its.eraseIdx j) hH ho ?_ (rv.eraseIdx j) ?_, rfl, q⟩
    · show its.toArray.eraseIdxIfInBounds j = (its.eraseIdx j).toArray
      rw [List.eraseIdxIfInBounds_toArray]
    · have := len_erase xs j
      omega
theorem mut_rem {K : PySem.W.Frag} : MutSem K (rRemD K) remD where
  go := fun G H p xs ds as vs ds' e hp q q1 hf Q k => by
    unfold remD at hf
    split at hf
    · split at hf
      · rename_i d hl
        split at hf
        · rename_i j hj
          cases hf
          cases q1 with
          | cons qd qn =>
            cases qn
            obtain ⟨h1, h2, h3⟩ := List.findIdx?_eq_some_iff_getElem.mp hj
            refine ⟨p, xs, _, d, ds, j, ds[j], rfl, rfl, hp, DpAll.ex e q, Dp.ex e qd, hl.2, hl.1, List.getElem?_eq_getElem h1, h2, fun m z' hm hz' => ?_, k _ _ (DpAll.eraseIdx _ q)⟩
            obtain ⟨hm1, rfl⟩ := List.getElem?_eq_some_iff.mp hz'
            have := h3 m hm
            simpa using this
        · cases hf
      · cases hf
    · cases hf
  ne := fun ds as x h => by
    unfold remD at h
    split at h
    · split at h
      · split at h <;> cases h
      · cases h
    · cases h
def fApp (i : Nat) (F : Env → Rs PyData) : Env → Rs Out := fMut i appD (fCons F fNil)
def fClr (i : Nat) : Env → Rs Out := fMut i clrD fNil
def fRevs (i : Nat) : Env → Rs Out := fMut i revsD fNil
def fIns (i : Nat) (F : Env → Rs (List PyData)) : Env → Rs Out := fMut i insD F
def fRem (i : Nat) (F : Env → Rs PyData) : Env → Rs Out := fMut i remD (fCons F fNil)
def fPopAt (i : Nat) (F : Env → Rs PyData) : Env → Rs Out := fMut i popAtD (fCons F fNil)
section
variable {ca : Nat → Addr} {X : Cx} {E : XK} {e : Expr} {es : List Expr} {te : TE} {ta : TA} {Fe : Env → Rs PyData} {Fa : Env → Rs (List PyData)} {x : Str} {p apos cpos pos : Pos}
theorem jp_mut {name : Str} {id : String} {r : V → List V → Hp → VK → Prop} {f : List PyData → List PyData → Rs (List PyData)} (i : Nat) (slot : Slot "list" name id) (hty : typeOf (.builtin id) = pure (.type "method_descriptor")) (hm : MtR X id r) (m : MutSem X.K r f) (hx : PE X (.Name x p) (tVar i)) (ha : JA ca X E (e :: es) ta Fa)
    (hbase : attributeBase (.Name x p) name X.env (eval (.Name x p) X.env) = eval (.Name x p) X.env)
    (hfew : ((backTo cpos (starEach (e :: es) X.env)).all (fun x => !x.1) && (backToKw cpos (keywordEach [] X.env)).all (fun x => x.1.isSome)
      && decide ((e :: es).length + ([] : List Keyword).length + (if ([] : List Keyword).isEmpty then 0 else 1) < 30)) = true)
    (hline : (apos.endLine == cpos.line) = true) (hs : starEach (e :: es) X.env = (false, eval e X.env) :: starEach es X.env) (hplain : (backTo cpos (starEach es X.env)).any (·.1) = false)
    (hsw : swapsWith (.Call (.Attribute (.Name x p) name apos) (e :: es) [] cpos) none pos.line X.env = pure false) :
    JP ca X E (.Expr (.Call (.Attribute (.Name x p) name apos) (e :: es) [] cpos) pos) (tDrop (tBM X.K "list" r (tVar i) ta)) (fMut i f Fa) :=
  ⟨ps_expr (pe_bm PySem.F.plainAttrs_list slot hty hm hx ha.pa hbase hfew hline hs hplain) hsw, sem_mut i m ha.sem⟩
theorem jp_mut0 {name : Str} {id : String} {r : V → List V → Hp → VK → Prop} {f : List PyData → List PyData → Rs (List PyData)} (i : Nat) (slot : Slot "list" name id) (hty : typeOf (.builtin id) = pure (.type "method_descriptor")) (hm : MtR X id r) (m : MutSem X.K r f) (hx : PE X (.Name x p) (tVar i))
    (hbase : attributeBase (.Name x p) name X.env (eval (.Name x p) X.env) = eval (.Name x p) X.env)
    (hline : (apos.endLine == cpos.line) = true)
    (hsw : swapsWith (.Call (.Attribute (.Name x p) name apos) [] [] cpos) none pos.line X.env = pure false) :
    JP ca X E (.Expr (.Call (.Attribute (.Name x p) name apos) [] [] cpos) pos) (tDrop (tBM0 X.K "list" r (tVar i))) (fMut i f fNil) :=
  ⟨ps_expr (pe_bm0 PySem.F.plainAttrs_list slot hty hm hx hbase hline) hsw, sem_mut i m (ja_nil (ca := ca) (X := X) (E := E)).sem⟩
theorem jp_append (i : Nat) (hx : PE X (.Name x p) (tVar i)) (ha : JS ca X E e te Fe)
    (hbase : attributeBase (.Name x p) "append" X.env (eval (.Name x p) X.env) = eval (.Name x p) X.env := by rfl)
    (hfew : ((backTo cpos (starEach [e] X.env)).all (fun x => !x.1) && (backToKw cpos (keywordEach [] X.env)).all (fun x => x.1.isSome)
      && decide (([e]).length + ([] : List Keyword).length + (if ([] : List Keyword).isEmpty then 0 else 1) < 30)) = true := by rfl)
    (hline : (apos.endLine == cpos.line) = true := by rfl) (hs : starEach [e] X.env = (false, eval e X.env) :: starEach [] X.env := by rfl) (hplain : (backTo cpos (starEach [] X.env)).any (·.1) = false := by rfl)
    (hsw : swapsWith (.Call (.Attribute (.Name x p) "append" apos) [e] [] cpos) none pos.line X.env = pure false := by rfl) :
    JP ca X E (.Expr (.Call (.Attribute (.Name x p) "append" apos) [e] [] cpos) pos) (tDrop (tBM X.K "list" rAppend (tVar i) (tCons te tNil))) (fApp i Fe) :=
  jp_mut i PySem.F.slot_list_append PySem.F.type_list_append mt_append mut_app hx (ja_cons ha ja_nil hs) hbase hfew hline hs hplain hsw
theorem jp_remove (i : Nat) (hx : PE X (.Name x p) (tVar i)) (ha : JS ca X E e te Fe) (hu : X.A.units + 65 < cLine)
    (hbase : attributeBase (.Name x p) "remove" X.env (eval (.Name x p) X.env) = eval (.Name x p) X.env := by rfl)
    (hfew : ((backTo cpos (starEach [e] X.env)).all (fun x => !x.1) && (backToKw cpos (keywordEach [] X.env)).all (fun x => x.1.isSome)
      && decide (([e]).length + ([] : List Keyword).length + (if ([] : List Keyword).isEmpty then 0 else 1) < 30)) = true := by rfl)
    (hline : (apos.endLine == cpos.line) = true := by rfl) (hs : starEach [e] X.env = (false, eval e X.env) :: starEach [] X.env := by rfl) (hplain : (backTo cpos (starEach [] X.env)).any (·.1) = false := by rfl)
    (hsw : swapsWith (.Call (.Attribute (.Name x p) "remove" apos) [e] [] cpos) none pos.line X.env = pure false := by rfl) :
    JP ca X E (.Expr (.Call (.Attribute (.Name x p) "remove" apos) [e] [] cpos) pos) (tDrop (tBM X.K "list" (rRemD X.K) (tVar i) (tCons te tNil))) (fRem i Fe) :=
  jp_mut i PySem.F.slot_list_remove PySem.F.type_list_remove (mt_removeD hu) mut_rem hx (ja_cons ha ja_nil hs) hbase hfew hline hs hplain hsw
theorem jp_popAt (i : Nat) (hx : PE X (.Name x p) (tVar i)) (ha : JS ca X E e te Fe)
    (hbase : attributeBase (.Name x p) "pop" X.env (eval (.Name x p) X.env) = eval (.Name x p) X.env := by rfl)
    (hfew : ((backTo cpos (starEach [e] X.env)).all (fun x => !x.1) && (backToKw cpos (keywordEach [] X.env)).all (fun x => x.1.isSome)
      && decide (([e]).length + ([] : List Keyword).length + (if ([] : List Keyword).isEmpty then 0 else 1) < 30)) = true := by rfl)
    (hline : (apos.endLine == cpos.line) = true := by rfl) (hs : starEach [e] X.env = (false, eval e X.env) :: starEach [] X.env := by rfl) (hplain : (backTo cpos (starEach [] X.env)).any (·.1) = false := by rfl)
    (hsw : swapsWith (.Call (.Attribute (.Name x p) "pop" apos) [e] [] cpos) none pos.line X.env = pure false := by rfl) :
    JP ca X E (.Expr (.Call (.Attribute (.Name x p) "pop" apos) [e] [] cpos) pos) (tDrop (tBM X.K "list" rPopAt (tVar i) (tCons te tNil))) (fPopAt i Fe) :=
  jp_mut i PySem.F.slot_list_pop PySem.F.type_list_pop mt_popAt mut_popAt hx (ja_cons ha ja_nil hs) hbase hfew hline hs hplain hsw
theorem jp_insert (i : Nat) {e2 : Expr} (hx : PE X (.Name x p) (tVar i)) (ha : JA ca X E [e, e2] ta Fa)
    (hbase : attributeBase (.Name x p) "insert" X.env (eval (.Name x p) X.env) = eval (.Name x p) X.env := by rfl)
    (hfew : ((backTo cpos (starEach [e, e2] X.env)).all (fun x => !x.1) && (backToKw cpos (keywordEach [] X.env)).all (fun x => x.1.isSome)
      && decide (([e, e2]).length + ([] : List Keyword).length + (if ([] : List Keyword).isEmpty then 0 else 1) < 30)) = true := by rfl)
    (hline : (apos.endLine == cpos.line) = true := by rfl) (hs : starEach [e, e2] X.env = (false, eval e X.env) :: starEach [e2] X.env := by rfl) (hplain : (backTo cpos (starEach [e2] X.env)).any (·.1) = false := by rfl)
    (hsw : swapsWith (.Call (.Attribute (.Name x p) "insert" apos) [e, e2] [] cpos) none pos.line X.env = pure false := by rfl) :
    JP ca X E (.Expr (.Call (.Attribute (.Name x p) "insert" apos) [e, e2] [] cpos) pos) (tDrop (tBM X.K "list" rInsert (tVar i) ta)) (fIns i Fa) :=
  jp_mut i PySem.F.slot_list_insert PySem.F.type_list_insert mt_insert mut_ins hx ha hbase hfew hline hs hplain hsw
theorem jp_clear (i : Nat) (hx : PE X (.Name x p) (tVar i))
    (hbase : attributeBase (.Name x p) "clear" X.env (eval (.Name x p) X.env) = eval (.Name x p) X.env := by rfl)
    (hline : (apos.endLine == cpos.line) = true := by rfl)
    (hsw : swapsWith (.Call (.Attribute (.Name x p) "clear" apos) [] [] cpos) none pos.line X.env = pure false := by rfl) :
    JP ca X E (.Expr (.Call (.Attribute (.Name x p) "clear" apos) [] [] cpos) pos) (tDrop (tBM0 X.K "list" rClear (tVar i))) (fClr i) :=
  jp_mut0 i PySem.F.slot_list_clear PySem.F.type_list_clear mt_clear mut_clr hx hbase hline hsw
theorem jp_reverse (i : Nat) (hx : PE X (.Name x p) (tVar i))
    (hbase : attributeBase (.Name x p) "reverse" X.env (eval (.Name x p) X.env) = eval (.Name x p) X.env := by rfl)
    (hline : (apos.endLine == cpos.line) = true := by rfl)
    (hsw : swapsWith (.Call (.Attribute (.Name x p) "reverse" apos) [] [] cpos) none pos.line X.env = pure false := by rfl) :
    JP ca X E (.Expr (.Call (.Attribute (.Name x p) "reverse" apos) [] [] cpos) pos) (tDrop (tBM0 X.K "list" rReverse (tVar i))) (fRevs i) :=
  jp_mut0 i PySem.F.slot_list_reverse PySem.F.type_list_reverse mt_reverse mut_revs hx hbase hline hsw
/-- xs[k] = v -/
def setP (ds : List PyData) (k d : PyData) : Rs (List PyData) := match k with
  | .int k => match ixN ds.length k with
    | some j => .ok (ds.set j d)
    | none => .stuck
  | _ => .stuck
def fSetIx (i : Nat) (Fv Fk : Env → Rs PyData) : Env → Rs Out := fun ρ => Fv ρ >>= fun d => ownL ρ[i]? >>= fun ds => Fk ρ >>= fun k => setP ds k d >>= fun ds' => .ok (.nx (ρ.set i (.ol ds')))
theorem jp_setIx (i : Nat) {v k : Expr} {tv tk : TE} {Fv Fk : Env → Rs PyData} (hv : JS ca X E v tv Fv) (hx : PE X (.Name x p) (tVar i)) (hk : JB ca X E k tk Fk)
    (ha : ∀ w, assign (.Subscript (.Name x p) k apos) X.env w = (do
      let ov ← holding [w] (eval (.Name x p) X.env)
      let iv ← holding [w, ov] (eval k X.env)
      standAt apos
      holding [w, ov, iv] (setItem ov iv w)
      release [w, ov, iv] []) := by intro _; rfl) (hs : swapsWithSole [.Subscript (.Name x p) k apos] v pos.line X.env = pure false := by rfl) (hw : swappedStores [.Subscript (.Name x p) k apos] v X.env = pure none := by rfl) :
    JP ca X E (.Assign [.Subscript (.Name x p) k apos] v pos) (tAsg tv (gSub (tVar i) tk rSetL)) (fSetIx i Fv Fk) := by
  refine ⟨ps_asg hv.pe (pg_sub hx hk.pe set_list ha) hs hw, fun G0 H0 G H ρ σ rep en hns D nx rt er => ?_⟩
  refine hv.sem.use rep hns (fun x e G' H' cl dd n => er x e G' H' cl dd (en.nx.trans n)) fun d ed e1 G1 H1 u n1 r1 q1 h1 er1 => ?_
  have nx0 : ∀ ρ', (ownL ρ[i]? >>= fun ds => Fk ρ >>= fun k => setP ds k d >>= fun ds' => (.ok (.nx (ρ.set i (.ol ds'))) : Rs Out)) = .ok (.nx ρ') → ∀ G' H' σ', Rep ⟨X.K, ca⟩ G' H' ρ' σ' → Ent G0 H0 G' H' ρ' σ' → D.nx σ' H' := fun ρ' e => nx ρ' (e1.trans e)
  replace nx := nx0
  obtain ⟨ds, hs⟩ := ownL_ok h1
  have e0 : (ownL ρ[i]? >>= fun ds => Fk ρ >>= fun k => setP ds k d >>= fun ds' => (.ok (.nx (ρ.set i (.ol ds'))) : Rs Out)) = (Fk ρ >>= fun k => setP ds k d >>= fun ds' => (.ok (.nx (ρ.set i (.ol ds'))) : Rs Out)) := by rw [hs]; rfl
  rw [e0] at h1 er1 nx
  obtain ⟨o, e2, pp, xs, rfl, gp, hp, qq⟩ := r1.sl i _ hs
  refine ⟨.ref pp, e2, ?_⟩
  refine hk.sem.use r1 h1 er1 fun kd ek e3 G2 H2 w n2 r2 q2 h2 er2 => ?_
  rw [e3] at nx
  obtain ⟨o', e4, p', xs', z, gp2, hp2, qq2⟩ := r2.sl i _ hs
  rw [e2] at e4
  cases e4
  cases z
  unfold setP at h2 nx
  split at h2
  · rename_i kk
    split at h2
    · rename_i j hj
      cases db_int q2
      have hl := DpAll.length qq2
      refine ⟨pp, xs', kk, j, rfl, rfl, hp2, by rw [hl]; exact hj, ?_⟩
      obtain ⟨r3, n3⟩ := mut_ol r2 ((en.go n1).go n2) hs e2 gp2 hp2 (DpAll.set (Dp.ex n2.g q1) j qq2)
      exact nx _ (by simp only [hj]; rfl) G2 _ σ r3 n3
    · exact absurd rfl h2
  · exact absurd rfl h2
/-- [..] * k -/
def repD (s : Sl) (k : PyData) : Rs Sl := match s, k with
  | .ol ds, .int k => if -(2 ^ 63) ≤ k ∧ k < 2 ^ 63 ∧ ds.length * k.toNat ≤ lim then .ok (.ol (List.replicate k.toNat ds).flatten) else .stuck
  | _, _ => .stuck
def fRep (Fa : Env → Rs Sl) (Fb : Env → Rs PyData) : Env → Rs Sl := fun ρ => Fa ρ >>= fun s => Fb ρ >>= fun k => repD s k
theorem DpAll.rep {K : PySem.W.Frag} {H : Hp} {vs : List V} {ds : List PyData} (h : DpAll K H vs ds) : ∀ n : Nat, DpAll K H (List.replicate n vs).flatten (List.replicate n ds).flatten
  | 0 => .nil
  | n + 1 => by
    rw [List.replicate_succ, List.replicate_succ, List.flatten_cons, List.flatten_cons]
    exact DpAll.append h (DpAll.rep h n)
theorem jv_rep {a b : Expr} {ta tb : TE} {Fa : Env → Rs Sl} {Fb : Env → Rs PyData} (ha : JV ca X E a ta Fa) (hb : JB ca X E b tb Fb) : JV ca X E (.BinOp a .Mult b pos) (tOp rRep ta tb) (fRep Fa Fb) := by
  refine ⟨pe_op op_rep ha.pe hb.pe, fun G H ρ σ rep hns Q ok er => ?_⟩
  refine ha.sem.use rep hns er fun s es e1 G1 H1 v n1 r1 q1 h1 er1 => ?_
  refine hb.sem.use r1 h1 er1 fun k ek e2 G2 H2 w n2 r2 q2 h2 er2 => ?_
  unfold repD at h2
  split at h2
  · rename_i ds kk
    split at h2
    · rename_i hc
      obtain ⟨p, xs, rfl, h0, g1, hp, q⟩ := q1
      cases db_int q2
      have hp2 : H2 p = some (.lst xs) := n2.h _ _ hp
      have q' := DpAll.ex n2.g q
      refine ⟨p, kk, xs, rfl, rfl, hp2, hc.1, hc.2.1, lim_le (by rw [DpAll.length q]; exact hc.2.2), fun l hl => ?_⟩
      refine ok (.ol (List.replicate kk.toNat ds).flatten) ?_ G2 _ _ ((n1.trans n2).trans (Nx.hid n2.gh hl)) ⟨l, _, rfl, (n1.trans n2).h.back hl, n2.gh.back hl, upd_same, DpAll.rep q' _⟩
      show (Fa ρ >>= fun s => Fb ρ >>= fun k => repD s k) = _
      rw [e1]
      refine e2.trans (if_pos hc)
    · exact absurd rfl h2
  · exact absurd rfl h2
end
/-! reckoning -/
theorem appD_ok {ds : List PyData} {d : PyData} (h : ds.length < lim) : appD ds [d] = .ok (ds ++ [d]) := if_pos h
@[simp] theorem z_clr (ds : List PyData) : clrD ds [] = .ok [] := rfl
@[simp] theorem z_revs (ds : List PyData) : revsD ds [] = .ok ds.reverse := rfl
@[simp] theorem z_ownL (ds : List PyData) : ownL (some (.ol ds)) = .ok ds := rfl
end PF

namespace PF
open PySem L2

/-! ### zip of a list or a tuple with a list or a tuple -/
def ItrK : Bool → Heap → Addr → Addr → Nat → Prop
  | true, h, it, l, i => h.IsListIter it l i
  | false, h, it, l, i => h.IsTupleIter it l i
def SeqK : Bool → Heap → Addr → Array Value → Prop
  | true, h, l, xs => h.IsList l xs
  | false, h, l, xs => h.IsTuple l xs
def SqK (b : Bool) (K : PySem.W.Frag) (H : Hp) (a : Addr) (xs : List V) : Prop := match b with
  | true => SqL K H a xs
  | false => SqT K H a xs
def itO (b : Bool) (l : Addr) : Obj := { cls := .type (if b then "list_iterator" else "tuple_iterator"), data := .fields #[.ref l, .int 0 0] }
def seqD (b : Bool) (ds : List PyData) : PyData := if b then .list ds else .tuple ds
theorem ItrK.obj {b : Bool} {h : Heap} {it l : Addr} {i : Nat} (x : ItrK b h it l i) : ∃ o, h.get? it = some o ∧ ∀ v, o.data ≠ .cell v := by
  cases b with
  | true => obtain ⟨o, e, _, d⟩ := x; exact ⟨o, e, fun v q => by rw [d] at q; cases q⟩
  | false => obtain ⟨o, e, _, d⟩ := x; exact ⟨o, e, fun v q => by rw [d] at q; cases q⟩
theorem ItrK.mv {b : Bool} {h h' : Heap} {it l : Addr} {i : Nat} (x : ItrK b h it l i) (k : ∀ o, h.get? it = some o → h'.get? it = some o) : ItrK b h' it l i := by
  cases b with
  | true => obtain ⟨o, e, r⟩ := x; exact ⟨o, k o e, r⟩
  | false => obtain ⟨o, e, r⟩ := x; exact ⟨o, k o e, r⟩
theorem SeqK.mv {b : Bool} {h h' : Heap} {l : Addr} {xs : Array Value} (x : SeqK b h l xs) (k : ∀ o, h.get? l = some o → h'.get? l = some o) : SeqK b h' l xs := by
  cases b with
  | true => obtain ⟨o, e, r⟩ := x; exact ⟨o, k o e, r⟩
  | false => obtain ⟨o, e, r⟩ := x; exact ⟨o, k o e, r⟩
theorem SeqK.lt {b : Bool} {h : Heap} {l : Addr} {xs : Array Value} (x : SeqK b h l xs) : l < h.objs.size := by
  cases b with
  | true => obtain ⟨o, e, r⟩ := x; exact Heap.lt_size e
  | false => obtain ⟨o, e, r⟩ := x; exact Heap.lt_size e
theorem drawsK {prog : Program} {w : World} {A : Around} (hh : A.handled = none) (b : Bool) (it l : Addr) (hne : l ≠ it) (items : Array Value) :
    Draws prog w A it [it, l] items.size (fun i v => items[i]? = some v) (fun i h => ItrK b h it l i ∧ SeqK b h l items) := by
  cases b with
  | true => exact Draws.list hh it l hne items
  | false => exact Draws.tuple hh it l hne items
theorem beginsK (b : Bool) (l : Addr) (items : Array Value) : Begins (.ref l) (itO b l) fun h => SeqK b h l items := by
  cases b with
  | true => exact begins_list l items
  | false => exact begins_tuple l items
theorem itrK_new {b : Bool} {h : Heap} {it l : Addr} (e : h.get? it = some (itO b l)) : ItrK b h it l 0 := by
  cases b with
  | true => exact ⟨_, e, rfl, rfl⟩
  | false => exact ⟨_, e, rfl, rfl⟩
section
variable {X : Cx} {pins : List (Addr × Obj)} {σ : L2.St} {H : Hp} {s : Shared} {a : Addr} {xs ys : List V}
theorem inv_seqK {b : Bool} (I : Inv X pins σ H s) (h : SqK b X.K H a xs) : ∃ its : List Value, Vals xs its ∧ SeqK b s.heap a its.toArray := by
  cases b with
  | true =>
    obtain ⟨its, r, p, _⟩ := I.list h
    exact ⟨its, r, p.isList⟩
  | false =>
    obtain ⟨its, r, p, _⟩ := I.tuple h
    exact ⟨its, r, p⟩
theorem inv_injK {b : Bool} (I : Inv X pins σ H s) (h : SqK b X.K H a xs) (h' : SqK b X.K H a ys) : xs = ys := by
  cases b with
  | true => exact I.list_inj h h'
  | false => exact I.tuple_inj h h'
end
theorem SqK.ex {b : Bool} {K : PySem.W.Frag} {H H' : Hp} {a : Addr} {xs : List V} (e : Ex H H') (h : SqK b K H a xs) : SqK b K H' a xs := by
  cases b with
  | true => exact Ex.sql e h
  | false => exact Ex.sqt e h
/-- the walk -/
def ItzK (K : PySem.W.Frag) (b1 b2 : Bool) (a b : Addr) : It :=
  ⟨fun i H => ∃ (xs ys : List V) (x y : V), SqK b1 K H a xs ∧ SqK b2 K H b ys ∧ xs[i]? = some x ∧ ys[i]? = some y,
    fun i H v H' => ∃ T x y, v = .ref T ∧ H T = none ∧ H' = upd H T (.tup [x, y]) ∧ (∀ xs, SqK b1 K H a xs → xs[i]? = some x) ∧ ∀ ys, SqK b2 K H b ys → ys[i]? = some y,
    fun i H => ∃ xs ys : List V, SqK b1 K H a xs ∧ SqK b2 K H b ys ∧ i ≤ xs.length ∧ i ≤ ys.length ∧ (i = xs.length ∨ i = ys.length)⟩
/-- the state of the heap between two turns -/
def zipSt (b1 b2 : Bool) (z TI TO i1 i2 a b : Addr) (i : Nat) (h : Heap) : Prop := IsZip h z TI TO .none ∧ IsTupOf2 h TI (.ref i1) (.ref i2) ∧ (∃ x y, IsTupOf2 h TO x y) ∧ ItrK b1 h i1 a i ∧ ItrK b2 h i2 b i
theorem mem5 {z TI TO i1 i2 c : Addr} (h : c ∈ [z, TI, TO, i1, i2]) : c = z ∨ c = TI ∨ c = TO ∨ c = i1 ∨ c = i2 := by simpa using h
theorem zipSt_obj {b1 b2 : Bool} {z TI TO i1 i2 a b : Addr} {i : Nat} {h : Heap} (st : zipSt b1 b2 z TI TO i1 i2 a b i h) : ∀ c ∈ [z, TI, TO, i1, i2], ∃ o, h.get? c = some o ∧ ∀ v, o.data ≠ .cell v := fun c hc => by
  obtain ⟨q1, q2, ⟨x, y, q3⟩, q4, q5⟩ := st
  rcases mem5 hc with rfl | rfl | rfl | rfl | rfl
  · exact ⟨_, q1, fun v q => nomatch q⟩
  · exact ⟨_, q2, fun v q => nomatch q⟩
  · exact ⟨_, q3, fun v q => nomatch q⟩
  · exact q4.obj
  · exact q5.obj
theorem turnK {P : Program} {w : World} {K : PySem.W.Frag} {elts : List Expr} {kk : Nat} {tpos : Pos} {b1 b2 : Bool} {a b z TI TO i1 i2 : Addr} (S : ZipSep2 z TI TO i1 i2 [i1, a] [i2, b]) (ha : a ≠ i1) (hb : b ≠ i2) :
    Turn P w K (.Tuple elts kk tpos) (ItzK K b1 b2 a b) [z, TI, TO, i1, i2] z (zipSt b1 b2 z TI TO i1 i2 a b) where
  mem := List.mem_cons_self
  obj := fun i h st => zipSt_obj st
  keep := fun i h h' st k => by
    obtain ⟨q1, q2, ⟨x, y, q3⟩, q4, q5⟩ := st
    exact ⟨k z (by simp) _ q1, k TI (by simp) _ q2, ⟨x, y, k TO (by simp) _ q3⟩, q4.mv fun o => k i1 (by simp) o, q5.mv fun o => k i2 (by simp) o⟩
  item := by
    intro X hP hw hK hc i pins s σ H E I hf st hg
    subst hP hw hK
    have there := zipSt_obj st
    obtain ⟨q1, q2, ⟨x0, y0, q3⟩, q4, q5⟩ := st
    obtain ⟨xs, ys, x, y, hqx, hqy, hx, hy⟩ := hg
    obtain ⟨its, rv, p⟩ := inv_seqK I hqx
    obtain ⟨its2, rv2, p2⟩ := inv_seqK I hqy
    obtain ⟨u, hu, ru⟩ := rv.get hx
    obtain ⟨u2, hu2, ru2⟩ := rv2.get hy
    have hh : X.A.in1.handled = none := I.ok.hd hc
    have D1 := drawsK (prog := X.prog) (w := X.w) (A := X.A.in1) hh b1 i1 a ha its.toArray
    have D2 := drawsK (prog := X.prog) (w := X.w) (A := X.A.in1) hh b2 i2 b hb its2.toArray
    refine wpAny_pyNext_zipD2_item S D1 D2 q1 q2 q3 ⟨q4, p⟩ ⟨q5, p2⟩ ?_ ?_ fun v v2 h' tk e1 e2 z1 z3 z4 z5 hT hsz hk => ?_
    · rw [List.size_toArray]; exact (List.getElem?_eq_some_iff.mp hu).1
    · rw [List.size_toArray]; exact (List.getElem?_eq_some_iff.mp hu2).1
    · have ev : v = u := by
        have e1' : its[i]? = some v := by simpa using e1
        rw [hu] at e1'
        exact (Option.some.inj e1').symm
      have ev2 : v2 = u2 := by
        have e2' : its2[i]? = some v2 := by simpa using e2
        rw [hu2] at e2'
        exact (Option.some.inj e2').symm
      subst ev ev2
      have hzl : z < s.heap.objs.size := Heap.lt_size q1
      refine ⟨_, rfl, wpAny_letOwnedTupleGo_zip (s := { s with heap := h', toks := tk }) z1 fun h'' zz sb => ?_⟩
      have mv : ∀ c o, c ≠ z → h'.get? c = some o → h''.get? c = some o := fun c o hc e => (sb.2 c hc).trans e
      have kk2 : ∀ c o, c ∉ [z, TI, TO, i1, i2] → s.heap.get? c = some o → h''.get? c = some o := fun c o hn e => by
        have n1 : c ≠ z := fun q => hn (by simp [q])
        have n2 : c ≠ TO := fun q => hn (by simp [q])
        have n3 : c ≠ i1 := fun q => hn (by simp [q])
        have n4 : c ≠ i2 := fun q => hn (by simp [q])
        exact mv c o n1 (hk c o n1 n2 n3 n4 e)
      have new : ObjOk X.prog X.w (upd H s.heap.objs.size (.tup [x, y])) h'' s.heap.objs.size (.tup [x, y]) :=
        ⟨by show 2 ≤ sizeLine; decide, [v, v2], .cons ru (.cons ru2 .nil), ⟨_, mv _ _ (Nat.ne_of_gt hzl) hT, rfl, _, rfl⟩⟩
      have J : Inv X pins σ (upd H s.heap.objs.size (.tup [x, y])) { s with heap := h'', toks := tk } := I.turnedNew (t' := tk) (ch := [z, TI, TO, i1, i2]) kk2 hf (Nat.le_refl _) new
      have TIi : TI ≠ z ∧ TI ≠ TO ∧ TI ≠ i1 ∧ TI ≠ i2 := ⟨S.TIz, S.TITO, S.TIi1, S.TIi2⟩
      refine ⟨.ref s.heap.objs.size, _, J, rfl, ⟨_, x, y, rfl, I.hok.fresh (Nat.le_refl _), rfl, fun l hl => by rw [inv_injK I hl hqx]; exact hx, fun l hl => by rw [inv_injK I hl hqy]; exact hy⟩,
        ⟨zz, mv TI _ TIi.1 (hk TI _ TIi.1 TIi.2.1 TIi.2.2.1 TIi.2.2.2 q2), ⟨v, v2, mv TO _ S.TOz z3⟩, z4.1.mv fun o => mv i1 o (Ne.symm S.zi1), z5.1.mv fun o => mv i2 o (Ne.symm S.zi2)⟩, fun c hcm => ?_⟩
      obtain ⟨o, eo, _⟩ := there c hcm
      rw [upd_ne (Nat.ne_of_lt (Heap.lt_size eo))]
      exact (hf c hcm).1
  done := by
    intro X hP hw hK hc i pins s σ H E I hf st hg
    subst hP hw hK
    obtain ⟨q1, q2, ⟨x0, y0, q3⟩, q4, q5⟩ := st
    obtain ⟨xs, ys, hqx, hqy, l1, l2, hend⟩ := hg
    obtain ⟨its, rv, p⟩ := inv_seqK I hqx
    obtain ⟨its2, rv2, p2⟩ := inv_seqK I hqy
    have e1 : its.toArray.size = xs.length := by rw [List.size_toArray]; exact rv.length.symm
    have e2 : its2.toArray.size = ys.length := by rw [List.size_toArray]; exact rv2.length.symm
    have hh : X.A.in1.handled = none := I.ok.hd hc
    have D1 := drawsK (prog := X.prog) (w := X.w) (A := X.A.in1) hh b1 i1 a ha its.toArray
    have D2 := drawsK (prog := X.prog) (w := X.w) (A := X.A.in1) hh b2 i2 b hb its2.toArray
    refine wpAny_pyNext_zipD2_end S D1 D2 q1 q2 q3 ⟨q4, p⟩ ⟨q5, p2⟩ (by rw [e1]; exact l1) (by rw [e2]; exact l2) (by rw [e1, e2]; exact hend) fun h' tk hk => ⟨rfl, ?_⟩
    exact I.turnedL (t' := tk) (ch := [z, TI, TO, i1, i2]) (fun c o hn e => hk c o (fun q => hn (by simp [q])) (fun q => hn (by simp [q])) (fun q => hn (by simp [q])) (fun q => hn (by simp [q])) e) hf
  self := fun A i s Q E st h => wpAny_pyIter_zip st.1 h
def iZipK (K : PySem.W.Frag) (ta : TA) : TI := fun σ H R => ta σ H fun vs H1 => ∃ a b xs ys b1 b2, vs = [.ref a, .ref b] ∧ SqK b1 K H1 a xs ∧ SqK b2 K H1 b ys ∧ R (ItzK K b1 b2 a b) H1
theorem pi_zipK {X : Cx} {e e2 : Expr} {ta : TA} {p pos tpos : Pos} {elts : List Expr} {kk : Nat} (hg : Gl X "zip") (hm : X.mg "zip" = none) (ha : PA X [e, e2] ta)
    (hs : starEach [e, e2] X.env = (false, eval e X.env) :: starEach [e2] X.env) (hpl : (backTo pos (starEach [e2] X.env)).any (·.1) = false) :
    PI X (.Tuple elts kk tpos) (.Call (.Name "zip" p) [e, e2] [] pos) (iZipK X.K ta) := by
  refine ⟨fun pins s σ H R I h => ?_⟩
  refine PyProof.Rows.Call_ (ld_blt I hg hm PyProof.Rows.boot_zip (PyProof.Rows.callWith_type1 (thn (ha.run pos pins s σ H _ I h) fun us s1 ⟨vs, H1, I1, r1, q1⟩ => ?_) hs hpl))
  obtain ⟨a, b, xs, ys, b1, b2, rfl, hqx, hqy, q⟩ := q1
  obtain ⟨u1, u2, rfl, ra, rb⟩ := vals2 r1
  cases (show u1 = Value.ref a from ra)
  cases (show u2 = Value.ref b from rb)
  obtain ⟨its, rv, p1⟩ := inv_seqK I1 hqx
  obtain ⟨its2, rv2, p2⟩ := inv_seqK I1 hqy
  have la := p1.lt
  have lb := p2.lt
  refine zip_begins2 (beginsK b1 a its.toArray) (beginsK b2 b its2.toArray) p1 p2 fun h' g1 g2 g3 g4 g5 hsz hk => wpAny_pyIter_zip g1 ?_
  have J : Inv X pins σ H1 { s1 with heap := h' } := I1.kept (t' := s1.toks) hk
  refine ⟨s1.heap.objs.size + 4, [s1.heap.objs.size + 4, s1.heap.objs.size + 2, s1.heap.objs.size + 3, s1.heap.objs.size, s1.heap.objs.size + 1], _, _, H1, rfl, J,
    turnK (zip_sep2 (N := s1.heap.objs.size) (fp1 := [a]) (fp2 := [b]) (fun c hc => by rw [List.mem_singleton.mp hc]; exact la) fun c hc => by rw [List.mem_singleton.mp hc]; exact lb) (Nat.ne_of_lt la) (Nat.ne_of_lt (Nat.lt_succ_of_lt lb)),
    ⟨g1, g2, ⟨_, _, g3⟩, itrK_new g4, itrK_new g5⟩, fun c hc => ?_, q⟩
  have hle : s1.heap.objs.size ≤ c := by
    rcases mem5 hc with rfl | rfl | rfl | rfl | rfl
    · exact Nat.le_add_right _ _
    · exact Nat.le_add_right _ _
    · exact Nat.le_add_right _ _
    · exact Nat.le_refl _
    · exact Nat.le_add_right _ _
  exact I1.fpOk hle (I1.hok.fresh hle)
def seqOf : PyData → Rs (Bool × List PyData)
  | .list ds => .ok (true, ds)
  | .tuple ds => .ok (false, ds)
  | _ => .stuck
/-- zip: lists or tuples -/
def zipM : List PyData → Rs (List PyData)
  | [.list xs, .list ys] => .ok (zipL xs ys)
  | [.tuple xs, .tuple ys] => .ok (zipL xs ys)
  | [.list xs, .tuple ys] => .ok (zipL xs ys)
  | [.tuple xs, .list ys] => .ok (zipL xs ys)
  | _ => .stuck
theorem zipM_ok {ds rs : List PyData} (h : zipM ds = .ok rs) : ∃ b1 b2 xs ys, ds = [seqD b1 xs, seqD b2 ys] ∧ rs = zipL xs ys := by
  unfold zipM at h
  split at h
  · cases h; exact ⟨true, true, _, _, rfl, rfl⟩
  · cases h; exact ⟨false, false, _, _, rfl, rfl⟩
  · cases h; exact ⟨true, false, _, _, rfl, rfl⟩
  · cases h; exact ⟨false, true, _, _, rfl, rfl⟩
  · cases h
theorem seqD_v {b : Bool} {K : PySem.W.Frag} {G : Hp} {v : V} {ds : List PyData} (h : Dp K G v (seqD b ds)) : ∃ a xs, v = .ref a ∧ SqK b K G a xs ∧ DpAll K G xs ds := by
  cases b with
  | true => exact Dp.list_v h
  | false => exact Dp.tuple_v h
section
variable {ca : Nat → Addr} {X : Cx} {E : XK} {e e2 : Expr} {ta : TA} {Fs : Env → Rs (List PyData)} {p pos tpos : Pos} {elts : List Expr} {kk : Nat}
theorem ji_zipM {b : Bool} (ha : JA ca X E [e, e2] ta Fs) (hm : X.mg "zip" = none) (hg : Gl X "zip" := by rfl) (hs : starEach [e, e2] X.env = (false, eval e X.env) :: starEach [e2] X.env := by rfl) (hpl : (backTo pos (starEach [e2] X.env)).any (·.1) = false := by rfl) :
    JI ca X E b (.Tuple elts kk tpos) (.Call (.Name "zip" p) [e, e2] [] pos) (iZipK X.K ta) (fIt zipM Fs) :=
  ⟨pi_zipK hg hm ha.pa hs hpl, fun G H ρ σ rep hns R ok er => ha.sem.use rep hns er fun d ed e1 G' H' v n r q hk _ => by
    have q : DpAll X.K G' v d := q
    cases h2 : zipM d with
    | stuck => exact absurd h2 hk
    | err x => unfold zipM at h2; split at h2 <;> cases h2
    | ok rs =>
      obtain ⟨b1, b2, xs, ys, rfl, rfl⟩ := zipM_ok h2
      have hlen : (zipL xs ys).length = min xs.length ys.length := by unfold zipL; exact List.length_zipWith
      match v, q with
      | _, .cons w1 (.cons w2 .nil) =>
        obtain ⟨a, vs, rfl, ha1, aa⟩ := seqD_v w1
        obtain ⟨c, ws, rfl, hb1, ab⟩ := seqD_v w2
        have la := DpAll.length aa
        have lb := DpAll.length ab
        refine ⟨a, c, vs, ws, b1, b2, rfl, ha1.ex n.gh, hb1.ex n.gh, ok _ (e1.trans h2) G' H' _ n ⟨fun H => SqK b1 X.K H a vs ∧ SqK b2 X.K H c ws, fun G2 H2 z1 z2 _ => ⟨(ha1.ex z1).ex z2, (hb1.ex z1).ex z2⟩, fun i H hi g => ?_, fun H g => ?_, fun i G2 H2 x H3 d hd g z1 z2 hy => ?_⟩⟩
        · rw [hlen] at hi
          have l1 : i < vs.length := by omega
          have l2 : i < ws.length := by omega
          exact ⟨vs, ws, vs[i], ws[i], g.1, g.2, List.getElem?_eq_getElem l1, List.getElem?_eq_getElem l2⟩
        · exact ⟨vs, ws, g.1, g.2, by rw [hlen]; omega, by rw [hlen]; omega, by rw [hlen]; omega⟩
        · obtain ⟨c1, c2, f1, f2, rfl⟩ := zipL_get hd
          obtain ⟨T, x1, y1, rfl, hT, e3, e4, e5⟩ := hy
          obtain ⟨d1, k1, k2⟩ := DpAll.get aa (e4 vs g.1)
          obtain ⟨d2, k3, k4⟩ := DpAll.get ab (e5 ws g.2)
          rw [f1] at k1
          rw [f2] at k3
          cases k1
          cases k3
          exact pair_new z2 hT e3 (Dp.ex z1 k2) (Dp.ex z1 k4)⟩
end
@[simp] theorem z_zipLL (xs ys : List PyData) : zipM [.list xs, .list ys] = .ok (zipL xs ys) := rfl
@[simp] theorem z_zipTT (xs ys : List PyData) : zipM [.tuple xs, .tuple ys] = .ok (zipL xs ys) := rfl
@[simp] theorem z_zipLT (xs ys : List PyData) : zipM [.list xs, .tuple ys] = .ok (zipL xs ys) := rfl
@[simp] theorem z_zipTL (xs ys : List PyData) : zipM [.tuple xs, .list ys] = .ok (zipL xs ys) := rfl
end PF
namespace PF
open PySem L2
/-! ### a list of our own is lent: what comes back holds no list -/
mutual
def lfree : PyData → Bool
  | .list _ => false
  | .dict _ => false
  | .tuple ds => lfreeAll ds
  | _ => true
def lfreeAll : List PyData → Bool
  | [] => true
  | d :: ds => lfree d && lfreeAll ds
end
def rmH (G : Hp) (p : Addr) : Hp := fun b => if b = p then none else G b
theorem rmH_ne {G : Hp} {p b : Addr} (h : b ≠ p) : rmH G p b = G b := if_neg h
theorem rmH_some {G : Hp} {p b : Addr} {o : HO} (h : rmH G p b = some o) : G b = some o ∧ b ≠ p := by
  unfold rmH at h
  split at h
  · cases h
  · exact ⟨h, by assumption⟩
theorem sqt_rm {K : PySem.W.Frag} {G : Hp} {p a : Addr} {xs zs : List V} (hp : G p = some (.lst zs)) (h : SqT K G a xs) : SqT K (rmH G p) a xs := by
  rcases h with h | h
  · have hne : a ≠ p := fun z => by
      subst z
      rcases h with h | ⟨o, h⟩
      · rw [hp] at h; cases h
      · rw [hp] at h; cases h
    rcases h with h | ⟨o, h⟩
    · exact .inl (.inl (by rw [rmH_ne hne]; exact h))
    · exact .inl (.inr ⟨o, by rw [rmH_ne hne]; exact h⟩)
  · exact .inr h
mutual
theorem dp_rm {K : PySem.W.Frag} {G : Hp} {p : Addr} {zs : List V} (hp : G p = some (.lst zs)) : ∀ {v : V} {d : PyData}, lfree d = true → Dp K G v d → Dp K (rmH G p) v d
  | _, _, _, .non => .non
  | _, _, _, .bl b => .bl b
  | _, _, _, .int i => .int i
  | _, _, _, .str x => .str x
  | _, _, hl, .lst h a => by simp [lfree] at hl
  | _, _, hl, .tup h a => .tup (sqt_rm hp h) (dps_rm hp (by simpa [lfree] using hl) a)
theorem dps_rm {K : PySem.W.Frag} {G : Hp} {p : Addr} {zs : List V} (hp : G p = some (.lst zs)) : ∀ {vs : List V} {ds : List PyData}, lfreeAll ds = true → DpAll K G vs ds → DpAll K (rmH G p) vs ds
  | _, _, _, .nil => .nil
  | _, _, hl, .cons h a => by
    simp only [lfreeAll, Bool.and_eq_true] at hl
    exact .cons (dp_rm hp hl.1 h) (dps_rm hp hl.2 a)
end
def slFree : Sl → Bool
  | .sh d => lfree d
  | .ol ds => lfreeAll ds
  | _ => false
def lendCk (s : Sl) : Rs Sl := if slFree s = true then .ok s else .stuck
def fLend (i : Nat) (F : Env → Rs Sl) : Env → Rs Sl := fun ρ => match ρ[i]? with
  | some (.ol _) => F (fz1 i ρ) >>= lendCk
  | _ => F ρ
theorem fz_rep0 {c : Pc} {G H : Hp} {ρ : Env} {σ : L2.St} {i : Nat} {ds : List PyData} {p : Addr} {xs : List V} (rep : Rep c G H ρ σ) (hs : ρ[i]? = some (.ol ds)) (e1 : σ[i]? = some (some (.ref p))) (gp : G p = none) (hp : H p = some (.lst xs)) (q : DpAll c.K G xs ds) : Rep c (upd G p (.lst xs)) H (fz1 i ρ) σ := by
  have ef : fz1 i ρ = ρ.set i (.sh (.list ds)) := by unfold fz1; rw [hs]; rfl
  rw [ef]
  have x : Ex G (upd G p (.lst xs)) := Ex.new gp
  have gh : Ex (upd G p (.lst xs)) H := fun a u e => by
    by_cases ha : a = p
    · rw [ha, upd_same] at e
      cases e
      rw [ha]
      exact hp
    · rw [upd_ne ha] at e
      exact rep.gh a u e
  refine ⟨gh, by rw [List.length_set, rep.len], fun j u e => ?_, fun j k u u' r a1 a2 w1 w2 f1 f2 => ?_⟩
  · rw [List.getElem?_set] at e
    by_cases hij : i = j
    · rw [if_pos hij] at e
      split at e
      · cases e
        rw [← hij]
        exact ⟨_, e1, _, rfl, .lst (.inl (.inl upd_same)) (DpAll.ex x q)⟩
      · cases e
    · rw [if_neg hij] at e
      obtain ⟨o, e2, q2⟩ := rep.sl j u e
      refine ⟨o, e2, ?_⟩
      have ne : ∀ b, o = some (.ref b) → u.own = true → b ≠ p := fun b eb hu z => by
        subst z
        rw [eb] at e2
        exact hij (rep.inj i j _ u b hs e rfl hu e1 e2)
      cases u with
      | no => trivial
      | sh d => obtain ⟨v, z1, z2⟩ := q2; exact ⟨v, z1, Dp.ex x z2⟩
      | ol es => obtain ⟨b, ys, z1, g1, z2, z3⟩ := q2; exact ⟨b, ys, z1, by rw [upd_ne (ne b z1 rfl)]; exact g1, z2, DpAll.ex x z3⟩
      | od es => obtain ⟨b, ys, z1, g1, z2, z3⟩ := q2; exact ⟨b, ys, z1, by rw [upd_ne (ne b z1 rfl)]; exact g1, z2, KvOk.ex x z3⟩
      | exn y => obtain ⟨v, z1, z2⟩ := q2; exact ⟨v, z1, z2.ex x⟩
  · have old : ∀ (m : Nat) t, (ρ.set i (.sh (.list ds)))[m]? = some t → t.own = true → ρ[m]? = some t := fun m t e ht => by
      rw [List.getElem?_set] at e
      by_cases him : i = m
      · rw [if_pos him] at e
        split at e <;> cases e
        cases ht
      · rw [if_neg him] at e
        exact e
    exact rep.inj j k u u' r (old j u a1 w1) (old k u' a2 w2) w1 w2 f1 f2
theorem sem_lend {c : Pc} {E : XK} {t : TE} {F : Env → Rs Sl} (i : Nat) (h : SemG c E t F (RV c)) : SemG c E t (fLend i F) (RV c) := by
  intro G H ρ σ rep hns Q ok er
  cases hs : ρ[i]? with
  | none =>
    have e : fLend i F ρ = F ρ := by unfold fLend; rw [hs]
    rw [e] at hns er
    exact h G H ρ σ rep hns Q (fun a ea => ok a (e.trans ea)) er
  | some s =>
    cases s with
    | ol ds =>
      have e : fLend i F ρ = (F (fz1 i ρ) >>= lendCk) := by unfold fLend; rw [hs]
      rw [e] at hns er
      obtain ⟨o, e1, p, xs, rfl, gp, hp, q⟩ := rep.sl i _ hs
      have rep1 := fz_rep0 rep hs e1 gp hp q
      have back : ∀ G' H', Nx (upd G p (.lst xs)) H G' H' → G' p = some (.lst xs) ∧ Nx G H (rmH G' p) H' := fun G' H' n => by
        have gp' : G' p = some (.lst xs) := n.g p _ upd_same
        refine ⟨gp', fun a u ea => ?_, n.h, fun a u ea => n.gh a u (rmH_some ea).1, fun a ha ga => ?_⟩
        · have hne : a ≠ p := ne_of_none ea gp
          rw [rmH_ne hne]
          exact n.g a u (by rw [upd_ne hne]; exact ea)
        · by_cases hap : a = p
          · exact .inl (by unfold rmH; rw [if_pos hap])
          · rw [rmH_ne hap]
            exact n.fr a ha (by rw [upd_ne hap]; exact ga)
      refine h (upd G p (.lst xs)) H _ σ rep1 (fun z => hns (by rw [z]; rfl)) Q (fun s es G' H' v n r => ?_) fun x ex G' H' cl dd n xr => ?_
      · obtain ⟨gp', n'⟩ := back G' H' n
        have hf : slFree s = true := by
          by_cases hf : slFree s = true
          · exact hf
          · exfalso
            apply hns
            rw [es]
            exact if_neg hf
        refine ok s (e.trans (by rw [es]; exact if_pos hf)) (rmH G' p) H' v n' ?_
        cases s with
        | sh d => exact dp_rm gp' hf r
        | ol es' =>
          obtain ⟨p2, ys, rfl, h0, g1, h1, r⟩ := r
          have hne : p2 ≠ p := fun z => by rw [z, hp] at h0; cases h0
          exact ⟨p2, ys, rfl, h0, by rw [rmH_ne hne]; exact g1, h1, dps_rm gp' hf r⟩
        | no => cases hf
        | od kvs => cases hf
        | exn x => cases hf
      · obtain ⟨gp', n'⟩ := back G' H' n
        refine er x (by rw [ex]; rfl) (rmH G' p) H' cl dd n' ?_
        obtain ⟨x1, x2⟩ := xr
        refine ⟨x1, ?_⟩
        cases hpl : x.place with
        | none => rw [hpl] at x2; exact x2
        | some pl =>
          rw [hpl] at x2
          obtain ⟨d, y1, y2⟩ := x2
          have hne : d ≠ p := fun z => by rw [z, gp'] at y2; cases y2
          exact ⟨d, y1, by rw [rmH_ne hne]; exact y2⟩
    | no =>
      have e : fLend i F ρ = F ρ := by unfold fLend; rw [hs]
      rw [e] at hns er
      exact h G H ρ σ rep hns Q (fun a ea => ok a (e.trans ea)) er
    | sh d =>
      have e : fLend i F ρ = F ρ := by unfold fLend; rw [hs]
      rw [e] at hns er
      exact h G H ρ σ rep hns Q (fun a ea => ok a (e.trans ea)) er
    | od d =>
      have e : fLend i F ρ = F ρ := by unfold fLend; rw [hs]
      rw [e] at hns er
      exact h G H ρ σ rep hns Q (fun a ea => ok a (e.trans ea)) er
    | exn d =>
      have e : fLend i F ρ = F ρ := by unfold fLend; rw [hs]
      rw [e] at hns er
      exact h G H ρ σ rep hns Q (fun a ea => ok a (e.trans ea)) er
theorem jv_lend {ca : Nat → Addr} {X : Cx} {E : XK} {e : Expr} {t : TE} {F : Env → Rs Sl} (i : Nat) (h : JV ca X E e t F) : JV ca X E e t (fLend i F) := ⟨h.pe, sem_lend i h.sem⟩
end PF

namespace PF
open PySem L2

/-! ### the rules of reckoning -/
section
variable {α β : Type} {ρ : Env} {F G : Env → Rs PyData} {Fv : Env → Rs Sl} {Fs : Env → Rs (List PyData)} {Fb Gb : Env → Rs Bool} {A B : Env → Rs Out}
@[simp] theorem z_ok (a : α) (f : α → Rs β) : (Rs.ok a >>= f) = f a := (rfl)
@[simp] theorem z_err (x : Exn) (f : α → Rs β) : ((Rs.err x : Rs α) >>= f) = .err x := (rfl)
@[simp] theorem z_stuck (f : α → Rs β) : ((Rs.stuck : Rs α) >>= f) = .stuck := (rfl)
@[simp] theorem z_varB (i : Nat) : fVarB i ρ = slB ρ[i]? := (rfl)
@[simp] theorem z_varS (i : Nat) : fVarS i ρ = slS ρ[i]? := (rfl)
@[simp] theorem z_slB (d : PyData) : slB (some (.sh d)) = .ok d := (rfl)
@[simp] theorem z_slBo (d : List PyData) : slB (some (.ol d)) = .ok (.list d) := (rfl)
@[simp] theorem z_slS (d : PyData) : slS (some (.sh d)) = .ok d := (rfl)
@[simp] theorem z_c (d : PyData) : fC d ρ = .ok d := (rfl)
@[simp] theorem z_op (f : PyData → PyData → Rs α) : fOp f F G ρ = (F ρ >>= fun a => G ρ >>= fun b => f a b) := (rfl)
@[simp] theorem z_un (f : α → Rs β) (F : Env → Rs α) : fUn f F ρ = (F ρ >>= f) := (rfl)
@[simp] theorem z_sh : fSh Fv ρ = (Fv ρ >>= slShare) := (rfl)
@[simp] theorem z_v : fV F ρ = (F ρ >>= fun d => .ok (.sh d)) := (rfl)
@[simp] theorem z_slsh (d : PyData) : slShare (.sh d) = .ok d := (rfl)
@[simp] theorem z_slol (d : List PyData) : slShare (.ol d) = .ok (.list d) := (rfl)
@[simp] theorem z_nil : fNil ρ = .ok [] := (rfl)
@[simp] theorem z_cons : fCons F Fs ρ = (F ρ >>= fun d => Fs ρ >>= fun ds => .ok (d :: ds)) := (rfl)
@[simp] theorem z_call (f : List PyData → Rs Sl) : fCall f Fs ρ = (Fs ρ >>= f) := (rfl)
@[simp] theorem z_not : fNot Fb ρ = (Fb ρ >>= fun b => .ok (!b)) := (rfl)
@[simp] theorem z_and : fAnd Fb Gb ρ = (Fb ρ >>= fun b => if b = true then Gb ρ else .ok false) := (rfl)
@[simp] theorem z_or : fOr Fb Gb ρ = (Fb ρ >>= fun b => if b = true then .ok true else Gb ρ) := (rfl)
@[simp] theorem z_andV : fAndV F G ρ = (F ρ >>= fun a => boolOf a >>= fun b => if b = true then G ρ else .ok (.bool false)) := (rfl)
@[simp] theorem z_orV : fOrV F G ρ = (F ρ >>= fun a => boolOf a >>= fun b => if b = true then .ok (.bool true) else G ρ) := (rfl)
@[simp] theorem z_notV : fNotV F ρ = (F ρ >>= fun a => boolOf a >>= fun b => .ok (.bool (!b))) := (rfl)
@[simp] theorem z_b : fB F ρ = (F ρ >>= boolOf) := (rfl)
@[simp] theorem z_boolOf (b : Bool) : boolOf (.bool b) = .ok b := (rfl)
@[simp] theorem z_intOf (b : Int) : intOf (.int b) = .ok b := (rfl)
@[simp] theorem z_some : fSome F ρ = (F ρ >>= fun d => intOf d >>= fun i => .ok (some i)) := (rfl)
@[simp] theorem z_none : fNone ρ = .ok none := (rfl)
@[simp] theorem z_sl {Fl Fh : Env → Rs (Option Int)} : fSl F Fl Fh ρ = (F ρ >>= fun a => Fl ρ >>= fun l => Fh ρ >>= fun h => slD a l h) := (rfl)
@[simp] theorem z_slL (ds : List PyData) (lo hi : Option Int) : slD (.list ds) lo hi = .ok (.ol (cutP ds lo hi)) := (rfl)
@[simp] theorem z_slT (ds : List PyData) (lo hi : Option Int) : slD (.tuple ds) lo hi = .ok (.sh (.tuple (cutP ds lo hi))) := (rfl)
@[simp] theorem z_seq : fSeq A B ρ = after (A ρ) B := (rfl)
@[simp] theorem z_skip : fSkip ρ = .ok (.nx ρ) := (rfl)
@[simp] theorem z_anx (k : Env → Rs Out) : after (.ok (.nx ρ)) k = k ρ := (rfl)
@[simp] theorem z_art (s : Sl) (k : Env → Rs Out) : after (.ok (.rt s)) k = .ok (.rt s) := (rfl)
@[simp] theorem z_aerr (x : Exn) (k : Env → Rs Out) : after (.err x) k = .err x := (rfl)
@[simp] theorem z_set (i : Nat) : fSet i Fv ρ = (Fv ρ >>= fun s => .ok (.nx (ρ.set i s))) := (rfl)
@[simp] theorem z_ret : fRet Fv ρ = (Fv ρ >>= fun s => .ok (.rt s)) := (rfl)
@[simp] theorem z_retVar (i : Nat) : fRetVar i ρ = (slRet ρ[i]? >>= fun s => .ok (.rt s)) := (rfl)
@[simp] theorem z_slRet (d : PyData) : slRet (some (.sh d)) = .ok (.sh d) := (rfl)
@[simp] theorem z_slReto (d : List PyData) : slRet (some (.ol d)) = .ok (.ol d) := (rfl)
@[simp] theorem z_slRetd (d : List (List Int × PyData)) : slRet (some (.od d)) = .ok (.od d) := (rfl)
@[simp] theorem z_if : fIf Fb A B ρ = (Fb ρ >>= fun b => if b = true then A ρ else B ρ) := (rfl)
@[simp] theorem z_fz (i : Nat) : fFz i A ρ = A (fz1 i ρ) := (rfl)
theorem fz1_eq (i : Nat) (ρ : Env) : fz1 i ρ = match ρ[i]? with
  | some (.ol ds) => ρ.set i (.sh (.list ds))
  | _ => ρ := by
  unfold fz1
  cases ρ[i]? with
  | none => rfl
  | some s => cases s <;> rfl
theorem fz1_sh {i : Nat} {ρ : Env} {d : PyData} (h : ρ[i]? = some (.sh d)) : fz1 i ρ = ρ := by rw [fz1_eq, h]
theorem fz1_ol {i : Nat} {ρ : Env} {ds : List PyData} (h : ρ[i]? = some (.ol ds)) : fz1 i ρ = ρ.set i (.sh (.list ds)) := by rw [fz1_eq, h]
@[simp] theorem z_for {T : Tgt} : fFor Fs T A ρ = (Fs ρ >>= fun ds => forF T A ds ρ) := (rfl)
@[simp] theorem z_it (f : α → Rs (List PyData)) (F : Env → Rs α) : fIt f F ρ = (F ρ >>= f) := (rfl)
@[simp] theorem z_itemsL (ds : List PyData) : itemsL (.list ds) = .ok ds := (rfl)
@[simp] theorem z_itemsT (ds : List PyData) : itemsT (.tuple ds) = .ok ds := (rfl)
@[simp] theorem z_par (i j : Nat) : fPar i j Fs ρ = (Fs ρ >>= fun ds => match ds with
  | [a, b] => .ok (.nx ((ρ.set i (.sh a)).set j (.sh b)))
  | _ => .stuck) := (rfl)
@[simp] theorem z_asg {T : Tgt} : fAsg T F ρ = (F ρ >>= fun d => match T d ρ with
  | some ρ' => .ok (.nx ρ')
  | none => .stuck) := (rfl)
@[simp] theorem z_tgN (i : Nat) (d : PyData) : tgN i d ρ = some (ρ.set i (.sh d)) := (rfl)
@[simp] theorem z_tgNil : tgNil [] ρ = some ρ := (rfl)
@[simp] theorem z_tgCons (T : Tgt) (Ts : Tgts) (d : PyData) (ds : List PyData) : tgCons T Ts (d :: ds) ρ = (T d ρ).bind (Ts ds) := (rfl)
@[simp] theorem z_tgT (n : Nat) (Ts : Tgts) (ds : List PyData) : tgT n Ts (.tuple ds) ρ = if ds.length = n then Ts ds ρ else none := (rfl)
@[simp] theorem z_outN : outV (.ok (.nx ρ)) = .ok (.sh .none) := (rfl)
@[simp] theorem z_outR (s : Sl) : outV (.ok (.rt s)) = .ok s := (rfl)
@[simp] theorem z_outE (x : Exn) : outV (.err x) = .err x := (rfl)
end
/-! the operations -/
@[simp] theorem z_add (a b : Int) : addD (.int a) (.int b) = .ok (.sh (.int (a + b))) := (rfl)
theorem addD_list {xs ys : List PyData} (h : xs.length + ys.length ≤ lim) : addD (.list xs) (.list ys) = .ok (.ol (xs ++ ys)) := if_pos h
theorem addD_tuple {xs ys : List PyData} (h : xs.length + ys.length ≤ lim) : addD (.tuple xs) (.tuple ys) = .ok (.sh (.tuple (xs ++ ys))) := if_pos h
@[simp] theorem z_sub (a b : Int) : subD (.int a) (.int b) = .ok (.int (a - b)) := (rfl)
theorem mulD_ok {a b : Int} (h : mulOk a b) : mulD (.int a) (.int b) = .ok (.int (a * b)) := if_pos h
theorem divD_ok {a b : Int} (h : divOk a b) : divD (.int a) (.int b) = .ok (.int (a.fdiv b)) := if_pos h
theorem modD_ok {a b : Int} (h : b ≠ 0) : modD (.int a) (.int b) = .ok (.int (a.fmod b)) := if_pos h
theorem powD_ok {a b : Int} (h : powOk a b) : powD (.int a) (.int b) = .ok (.int (a ^ b.toNat)) := if_pos h
@[simp] theorem z_lt (a b : Int) : ltD (.int a) (.int b) = .ok (.bool (decide (a < b))) := (rfl)
@[simp] theorem z_le (a b : Int) : leD (.int a) (.int b) = .ok (.bool (decide (a ≤ b))) := (rfl)
@[simp] theorem z_gt (a b : Int) : gtD (.int a) (.int b) = .ok (.bool (decide (b < a))) := (rfl)
@[simp] theorem z_ge (a b : Int) : geD (.int a) (.int b) = .ok (.bool (decide (b ≤ a))) := (rfl)
@[simp] theorem z_neg (a : Int) : negD (.int a) = .ok (.int (-a)) := (rfl)
@[simp] theorem z_abs (a : Int) : absD (.int a) = .ok (.int (if a < 0 then -a else a)) := (rfl)
@[simp] theorem z_lenL (ds : List PyData) : lenD (.list ds) = .ok (.int ds.length) := (rfl)
@[simp] theorem z_lenT (ds : List PyData) : lenD (.tuple ds) = .ok (.int ds.length) := (rfl)
@[simp] theorem z_int1b (b : Bool) : int1D (.bool b) = .ok (.int (if b then 1 else 0)) := (rfl)
@[simp] theorem z_int1 (b : Int) : int1D (.int b) = .ok (.int b) := (rfl)
@[simp] theorem z_listL (ds : List PyData) : listD (.list ds) = .ok (.ol ds) := (rfl)
@[simp] theorem z_listT (ds : List PyData) : listD (.tuple ds) = .ok (.ol ds) := (rfl)
@[simp] theorem z_tupL (ds : List PyData) : tupleD (.list ds) = .ok (.tuple ds) := (rfl)
@[simp] theorem z_tupT (ds : List PyData) : tupleD (.tuple ds) = .ok (.tuple ds) := (rfl)
@[simp] theorem z_min (a b : Int) : min2D (.int a) (.int b) = .ok (.int (if b < a then b else a)) := (rfl)
@[simp] theorem z_max (a b : Int) : max2D (.int a) (.int b) = .ok (.int (if b > a then b else a)) := (rfl)
@[simp] theorem z_isN (a : PyData) : isND a .none = .ok (.bool (isNo a)) := (rfl)
@[simp] theorem z_notN (a : PyData) : notND a .none = .ok (.bool (!isNo a)) := (rfl)
theorem lstD_ok {ds : List PyData} (h : ds.length ≤ lim) : lstD ds = .ok (.ol ds) := if_pos h
theorem tupD_ok {ds : List PyData} (h : ds.length ≤ lim) : tupD ds = .ok (.tuple ds) := if_pos h
@[simp] theorem z_tup1 (a : PyData) : tupD [a] = .ok (.tuple [a]) := tupD_ok (by show 1 ≤ 1000000; decide)
@[simp] theorem z_tup2 (a b : PyData) : tupD [a, b] = .ok (.tuple [a, b]) := tupD_ok (by show 2 ≤ 1000000; decide)
@[simp] theorem z_tup3 (a b c : PyData) : tupD [a, b, c] = .ok (.tuple [a, b, c]) := tupD_ok (by show 3 ≤ 1000000; decide)
@[simp] theorem z_tup0 : tupD [] = .ok (.tuple []) := tupD_ok (by show 0 ≤ 1000000; decide)
@[simp] theorem z_lst0 : lstD [] = .ok (.ol []) := lstD_ok (by show 0 ≤ 1000000; decide)
@[simp] theorem z_lst1 (a : PyData) : lstD [a] = .ok (.ol [a]) := lstD_ok (by show 1 ≤ 1000000; decide)
@[simp] theorem z_lst2 (a b : PyData) : lstD [a, b] = .ok (.ol [a, b]) := lstD_ok (by show 2 ≤ 1000000; decide)
@[simp] theorem z_lst3 (a b c : PyData) : lstD [a, b, c] = .ok (.ol [a, b, c]) := lstD_ok (by show 3 ≤ 1000000; decide)
@[simp] theorem z_lst4 (a b c d : PyData) : lstD [a, b, c, d] = .ok (.ol [a, b, c, d]) := lstD_ok (by show 4 ≤ 1000000; decide)
@[simp] theorem z_eqI (a b : Int) : eqD (.int a) (.int b) = .ok (.bool (a == b)) := (rfl)
@[simp] theorem z_neI (a b : Int) : neD (.int a) (.int b) = .ok (.bool (!(a == b))) := (rfl)
@[simp] theorem z_isiI (a : Int) : isiD "int" (.int a) = .ok (.bool true) := kit_int (.int a)
@[simp] theorem z_isiB (a : Int) : isiD "bool" (.int a) = .ok (.bool false) := kit_bool (.int a)
@[simp] theorem z_isiT (ds : List PyData) : isiD "tuple" (.tuple ds) = .ok (.bool true) := kit_tuple (.tuple ds)
@[simp] theorem z_isiL (ds : List PyData) : isiD "list" (.list ds) = .ok (.bool true) := kit_list (.list ds)
@[simp] theorem z_ixT (ds : List PyData) (i : Int) : ixD (.tuple ds) (.int i) = getP ds i := (rfl)
@[simp] theorem z_ixL (ds : List PyData) (i : Int) : ixD (.list ds) (.int i) = getP ds i := (rfl)
@[simp] theorem z_get0 (a : PyData) (l : List PyData) : getP (a :: l) 0 = .ok a := by
  have h : atI (a :: l) ((0 : Nat) : Int) = some a := atI_nat rfl
  unfold getP
  rw [show (0 : Int) = ((0 : Nat) : Int) from rfl, h]
@[simp] theorem z_get1 (a b : PyData) (l : List PyData) : getP (a :: b :: l) 1 = .ok b := by
  have h : atI (a :: b :: l) ((1 : Nat) : Int) = some b := atI_nat rfl
  unfold getP
  rw [show (1 : Int) = ((1 : Nat) : Int) from rfl, h]
@[simp] theorem z_get2 (a b c : PyData) (l : List PyData) : getP (a :: b :: c :: l) 2 = .ok c := by
  have h : atI (a :: b :: c :: l) ((2 : Nat) : Int) = some c := atI_nat rfl
  unfold getP
  rw [show (2 : Int) = ((2 : Nat) : Int) from rfl, h]
theorem getP_nat {ds : List PyData} {i : Nat} {d : PyData} (h : ds[i]? = some d) : getP ds (i : Int) = .ok d := by
  unfold getP
  rw [atI_nat h]
theorem getP_int {ds : List PyData} {i : Int} {d : PyData} (h0 : 0 ≤ i) (h : ds[i.toNat]? = some d) : getP ds i = .ok d := by
  have e : i = ((i.toNat : Nat) : Int) := by omega
  rw [e]
  exact getP_nat h
@[simp] theorem outV_ret (r : Rs Sl) : outV (r >>= fun s => .ok (.rt s)) = r := by cases r <;> rfl
@[simp] theorem z_p10_5 : powD (.int 10) (.int 5) = .ok (.int 100000) := powD_ok (by decide)
@[simp] theorem z_p10_6 : powD (.int 10) (.int 6) = .ok (.int 1000000) := powD_ok (by decide)
@[simp] theorem z_p10_9 : powD (.int 10) (.int 9) = .ok (.int 1000000000) := powD_ok (by decide)
@[simp] theorem z_p10_10 : powD (.int 10) (.int 10) = .ok (.int 10000000000) := powD_ok (by decide)
@[simp] theorem z_p10_18 : powD (.int 10) (.int 18) = .ok (.int 1000000000000000000) := powD_ok (by decide)
@[simp] theorem z_p10_20 : powD (.int 10) (.int 20) = .ok (.int 100000000000000000000) := powD_ok (by decide)
@[simp] theorem z_p10_30 : powD (.int 10) (.int 30) = .ok (.int 1000000000000000000000000000000) := powD_ok (by decide)
@[simp] theorem z_p10_60 : powD (.int 10) (.int 60) = .ok (.int 1000000000000000000000000000000000000000000000000000000000000) := powD_ok (by decide)
@[simp] theorem z_p10_64 : powD (.int 10) (.int 64) = .ok (.int 10000000000000000000000000000000000000000000000000000000000000000) := powD_ok (by decide)
/-! sizes -/
theorem log2_lt' {a : Int} {n : Nat} (h : a.natAbs < 2 ^ n) (h0 : 0 < n) : a.natAbs.log2 < n := PySem.Flt.log2_lt_of h0 h
theorem mulOk_of {a b : Int} {m n : Nat} (ha : a.natAbs < 2 ^ m) (hb : b.natAbs < 2 ^ n) (h : m + n ≤ 134217000) (h0 : 0 < m) (h1 : 0 < n) : mulOk a b := .inr (.inr (by have := log2_lt' ha h0; have := log2_lt' hb h1; omega))
theorem mulOk_left {a b : Int} (h : a.natAbs < 2 ^ 64) : mulOk a b := .inl (log2_lt' h (by decide))
theorem mulOk_right {a b : Int} (h : b.natAbs < 2 ^ 64) : mulOk a b := .inr (.inl (log2_lt' h (by decide)))
theorem divOk_of {a b : Int} {n : Nat} (h0 : b ≠ 0) (h : b.natAbs < 2 ^ n) (hn : n ≤ 9000) : divOk a b := ⟨h0, PyProof.noPylong_of_log2 (by
  have : b.natAbs.log2 < 9000 := log2_lt' (Nat.lt_of_lt_of_le h (Nat.pow_le_pow_right (by decide) hn)) (by decide)
  exact this)⟩
theorem divOk_lit {a b : Int} (h0 : b ≠ 0) (h : b.natAbs < 2 ^ 64) : divOk a b := divOk_of h0 h (by decide)
theorem fnOf_of {np n : Nat} {F : Env → Rs Out} {ds : List PyData} (h : ds.length = np) : fnOf np n F ds = outV (F (ds.map Sl.sh ++ List.replicate (n - np) Sl.no)) := by
  unfold fnOf
  rw [if_pos h, h]
theorem fnOf1 (n : Nat) (F : Env → Rs Out) (a : PyData) : fnOf 1 n F [a] = outV (F (.sh a :: List.replicate (n - 1) .no)) := if_pos rfl
theorem fnOf2 (n : Nat) (F : Env → Rs Out) (a b : PyData) : fnOf 2 n F [a, b] = outV (F (.sh a :: .sh b :: List.replicate (n - 2) .no)) := if_pos rfl
theorem fnOf3 (n : Nat) (F : Env → Rs Out) (a b c : PyData) : fnOf 3 n F [a, b, c] = outV (F (.sh a :: .sh b :: .sh c :: List.replicate (n - 3) .no)) := if_pos rfl
theorem fnOf4 (n : Nat) (F : Env → Rs Out) (a b c d : PyData) : fnOf 4 n F [a, b, c, d] = outV (F (.sh a :: .sh b :: .sh c :: .sh d :: List.replicate (n - 4) .no)) := if_pos rfl
theorem fnOf5 (n : Nat) (F : Env → Rs Out) (a b c d e : PyData) : fnOf 5 n F [a, b, c, d, e] = outV (F (.sh a :: .sh b :: .sh c :: .sh d :: .sh e :: List.replicate (n - 5) .no)) := if_pos rfl
@[simp] theorem z_rep0 : List.replicate 0 Sl.no = [] := (rfl)
end PF

namespace PF
open PySem L2

/-! ### the greatest divisor, fractions in lowest terms: plain mathematics -/
/-- what divides both, signed as the bottom is -/
def byOf (t b : Int) : Int := if b < 0 then 0 - (Int.gcd t b : Int) else Int.gcd t b
def frT (t b : Int) : Int := t.fdiv (byOf t b)
def frB (t b : Int) : Int := b.fdiv (byOf t b)
def fracD (p q : Int) : PyData := .tuple [.int p, .int q]
def frD (t b : Int) : PyData := fracD (frT t b) (frB t b)
theorem byOf_ne {t b : Int} (h : b ≠ 0) : byOf t b ≠ 0 := by
  have h1 : Int.gcd t b ≠ 0 := fun z => h (Int.gcd_eq_zero_iff.mp z).2
  unfold byOf
  split <;> omega
theorem byOf_dvd_l (t b : Int) : byOf t b ∣ t := by
  unfold byOf
  split
  · rw [Int.zero_sub, Int.neg_dvd]; exact Int.gcd_dvd_left t b
  · exact Int.gcd_dvd_left t b
theorem byOf_dvd_r (t b : Int) : byOf t b ∣ b := by
  unfold byOf
  split
  · rw [Int.zero_sub, Int.neg_dvd]; exact Int.gcd_dvd_right t b
  · exact Int.gcd_dvd_right t b
theorem fdiv_mul_of_dvd {a b : Int} (h : b ∣ a) : a.fdiv b * b = a := Int.fdiv_mul_cancel h
theorem frT_mul (t b : Int) : frT t b * byOf t b = t := fdiv_mul_of_dvd (byOf_dvd_l t b)
theorem frB_mul (t b : Int) : frB t b * byOf t b = b := fdiv_mul_of_dvd (byOf_dvd_r t b)
theorem byOf_abs (t b : Int) : (byOf t b).natAbs = Int.gcd t b := by
  unfold byOf
  split <;> omega
theorem frB_pos {t b : Int} (h : b ≠ 0) : 0 < frB t b := by
  have e := frB_mul t b
  have n := byOf_ne (t := t) h
  have q : byOf t b < 0 ↔ b < 0 := by
    have h1 : Int.gcd t b ≠ 0 := fun z => h (Int.gcd_eq_zero_iff.mp z).2
    unfold byOf
    split <;> omega
  rcases Int.lt_trichotomy (frB t b) 0 with z | z | z
  · rcases Int.lt_or_gt_of_ne n with w | w
    · have := Int.mul_pos_of_neg_of_neg z w
      have := q.mp w
      omega
    · have := Int.mul_neg_of_neg_of_pos z w
      have hb : b < 0 := by omega
      have := q.mpr hb
      omega
  · rw [z, Int.zero_mul] at e
    exact absurd e.symm h
  · exact z
theorem fr_cross {t b : Int} : frT t b * b = t * frB t b := by
  have h1 := frT_mul t b
  have h2 := frB_mul t b
  grind
theorem fr_gcd {t b : Int} (h : b ≠ 0) : Int.gcd (frT t b) (frB t b) = 1 := by
  have e : Int.gcd (frT t b * byOf t b) (frB t b * byOf t b) = Int.gcd (frT t b) (frB t b) * (byOf t b).natAbs := Int.gcd_mul_right _ _ _
  rw [frT_mul, frB_mul, byOf_abs] at e
  have h1 : 0 < Int.gcd t b := Nat.pos_of_ne_zero fun z => h (Int.gcd_eq_zero_iff.mp z).2
  exact (Nat.eq_of_mul_eq_mul_right h1 (by rw [Nat.one_mul]; exact e)).symm
theorem natAbs_le_mul {x y : Int} (h : y ≠ 0) : x.natAbs ≤ (x * y).natAbs := by
  rw [Int.natAbs_mul]
  exact Nat.le_mul_of_pos_right _ (Int.natAbs_pos.mpr h)
theorem frT_le {t b : Int} (h : b ≠ 0) : (frT t b).natAbs ≤ t.natAbs := by
  have := natAbs_le_mul (x := frT t b) (byOf_ne (t := t) h)
  rwa [frT_mul] at this
theorem frB_le {t b : Int} (h : b ≠ 0) : (frB t b).natAbs ≤ b.natAbs := by
  have := natAbs_le_mul (x := frB t b) (byOf_ne (t := t) h)
  rwa [frB_mul] at this
theorem byOf_le {t b : Int} (h : b ≠ 0) : (byOf t b).natAbs ≤ b.natAbs := by
  rw [byOf_abs]
  exact Nat.le_of_dvd (Int.natAbs_pos.mpr h) (Nat.gcd_dvd_right t.natAbs b.natAbs)
/-- the loop of a greatest divisor: state x, y -/
theorem gcd_step (x y : Int) (hy : 0 < y) : Int.gcd y (x.fmod y) = Int.gcd x y := by
  rw [Int.fmod_eq_emod_of_nonneg x (by omega), Int.gcd_comm x y]
  rw [show x % y = x + (-(x / y)) * y by rw [Int.emod_def, Int.neg_mul, Int.mul_comm]; omega]
  exact Int.gcd_add_mul_right_right _ _ _
/-- what the loop body of divisor is to do -/
theorem gcd_loop {C : Env → Rs Bool} {B : Env → Rs Out} (hC : ∀ x y : Int, C [.sh (.int x), .sh (.int y)] = .ok (decide (0 < y)))
    (hB : ∀ x y : Int, 0 < y → B [.sh (.int x), .sh (.int y)] = .ok (.nx [.sh (.int y), .sh (.int (x.fmod y))])) : ∀ (n : Nat) (x y : Int), 0 ≤ x → 0 ≤ y → y.toNat ≤ n → whL C B [.sh (.int x), .sh (.int y)] = .ok (.nx [.sh (.int (Int.gcd x y)), .sh (.int 0)])
  | 0, x, y, hx, hy, hn => by
    have : y = 0 := by omega
    subst this
    rw [whL_eq, hC]
    simp
    omega
  | n + 1, x, y, hx, hy, hn => by
    rw [whL_eq, hC]
    by_cases h : 0 < y
    · simp only [h, decide_true, z_ok, if_pos, hB x y h, z_anx]
      have hm := Int.fmod_nonneg_of_pos x h
      have hl := Int.fmod_lt_of_pos x h
      rw [gcd_loop hC hB n y (x.fmod y) (by omega) hm (by omega), gcd_step x y h]
    · have : y = 0 := by omega
      subst this
      simp
      omega
theorem abs_if (a : Int) : (if a < 0 then -a else a) = (a.natAbs : Int) := by split <;> omega
theorem gcd_abs (a b : Int) : Int.gcd (a.natAbs : Int) (b.natAbs : Int) = Int.gcd a b := by
  unfold Int.gcd
  simp
/-- a loop by an invariant -/
theorem forF_inv {T : Tgt} {B : Env → Rs Out} {ds : List PyData} (I : Nat → Env → Prop) (step : ∀ i d ρ, ds[i]? = some d → I i ρ → ∃ ρ1 ρ2, T d ρ = some ρ1 ∧ B ρ1 = .ok (.nx ρ2) ∧ I (i + 1) ρ2) :
    ∀ (n : Nat) (ρ : Env), n ≤ ds.length → I n ρ → ∃ ρ', forF T B (ds.drop n) ρ = .ok (.nx ρ') ∧ I ds.length ρ' := by
  intro n
  generalize hk : ds.length - n = k
  induction k generalizing n with
  | zero =>
    intro ρ hn hi
    have e : n = ds.length := by omega
    subst e
    exact ⟨ρ, by rw [List.drop_length]; rfl, hi⟩
  | succ k ih =>
    intro ρ hn hi
    have hlt : n < ds.length := by omega
    obtain ⟨ρ1, ρ2, e1, e2, hi2⟩ := step n ds[n] ρ (List.getElem?_eq_getElem hlt) hi
    obtain ⟨ρ', e3, hi3⟩ := ih (n + 1) (by omega) ρ2 hlt hi2
    refine ⟨ρ', ?_, hi3⟩
    rw [List.drop_eq_getElem_cons hlt]
    unfold forF
    rw [e1]
    show after (B ρ1) (forF T B (ds.drop (n + 1))) = _
    rw [e2, after_nx, e3]
theorem for_inv {T : Tgt} {B : Env → Rs Out} {ds : List PyData} {ρ : Env} (I : Nat → Env → Prop) (h0 : I 0 ρ) (step : ∀ i d ρ, ds[i]? = some d → I i ρ → ∃ ρ1 ρ2, T d ρ = some ρ1 ∧ B ρ1 = .ok (.nx ρ2) ∧ I (i + 1) ρ2) :
    ∃ ρ', forF T B ds ρ = .ok (.nx ρ') ∧ I ds.length ρ' := forF_inv I step 0 ρ (Nat.zero_le _) h0
theorem bd_mul {a b : Int} {m n : Nat} (ha : a.natAbs < 2 ^ m) (hb : b.natAbs < 2 ^ n) : (a * b).natAbs < 2 ^ (m + n) := by
  rw [Int.natAbs_mul, Nat.pow_add]
  exact Nat.mul_lt_mul'' ha hb
theorem bd_add {a b : Int} {m : Nat} (ha : a.natAbs < 2 ^ m) (hb : b.natAbs < 2 ^ m) : (a + b).natAbs < 2 ^ (m + 1) := by
  rw [Nat.pow_succ]
  omega
theorem bd_sub {a b : Int} {m : Nat} (ha : a.natAbs < 2 ^ m) (hb : b.natAbs < 2 ^ m) : (a - b).natAbs < 2 ^ (m + 1) := by
  rw [Nat.pow_succ]
  omega
theorem bd_mono {a : Int} {m n : Nat} (ha : a.natAbs < 2 ^ m) (h : m ≤ n) : a.natAbs < 2 ^ n := Nat.lt_of_lt_of_le ha (Nat.pow_le_pow_right (by decide) h)
theorem bd_le {a b : Int} {m : Nat} (h : a.natAbs ≤ b.natAbs) (hb : b.natAbs < 2 ^ m) : a.natAbs < 2 ^ m := Nat.lt_of_le_of_lt h hb
end PF

namespace PF
open PySem L2

/-! ### own errors -/
/-- what the written part tells of one error class -/
structure Ecl (K : PySem.W.Frag) (mg : Str → Option Value) (x : Str) (C : Addr) : Prop where
  g : mg x = some (.ref C)
  k : PySem.W.keepIn K (.ref C) = true
  b : PySem.W.subIn K (.ref C) (.type "BaseException") = some true
  t : PySem.W.typeIn K (.ref C) = some (.type "type")
  i : PySem.W.isClsIn K C = true
  ga : PySem.W.findIn K (.ref C) "__getattribute__" = some (some (.builtin "BaseException.__getattribute__"))
  gg : PySem.W.findIn K (.ref C) "__getattr__" = some none
  ha : PySem.W.findIn K (.ref C) "__class__" = some (some (.builtin "object.__class__"))
  hd : PySem.W.hasDictIn K C = true
  hm : PySem.W.mroIn K C (.type "object") = some true
  sv : PySem.W.subIn K (.ref C) (.type "ValueError") = some true
  sn : PySem.W.subIn K (.type "NoneType") (.ref C) = some false
def eNm : Nat → Str
  | 0 => "WallError"
  | 1 => "NoNumber"
  | 2 => "NoLand"
  | 3 => "NoPlace"
  | 4 => "NoFace"
  | _ => "NoWall"
/-- is an error of class i one of class j -/
def eSub (i j : Nat) : Bool := i == j || j == 0
/-- all of them -/
structure EX (K : PySem.W.Frag) (mg : Str → Option Value) (ca : Nat → Addr) : Prop where
  cl : ∀ i, i < 6 → Ecl K mg (eNm i) (ca i)
  sb : ∀ i j, i < 6 → j < 6 → PySem.W.subIn K (.ref (ca i)) (.ref (ca j)) = some (eSub i j)
  hn : PySem.W.specialIn K (.builtin "object.__class__") "__get__" = some (some (.builtin "getset_descriptor.__get__"))
  ht : PySem.W.takesIn K (.builtin "object.__class__") = some true
  x : ∀ i, i < 5 → PySem.W.excIn K (ca i) [.type "ValueError", .type "Exception", .type "BaseException", .type "object"] "ValueError.__new__" = true
section
variable {K : PySem.W.Frag} {mg : Str → Option Value} {ca : Nat → Addr}
theorem EX.exm (T : EX K mg ca) {i : Nat} (hi : i < 6) : PySem.W.exmOne K (.ref (ca i)) (.ref (ca 0)) = some true := by
  have c := T.cl 0 (by decide)
  have e1 : (PySem.W.subIn K (.ref (ca 0)) (.type "BaseException") == some true) = true := by rw [c.b] <;> rfl
  have e2 : ((PySem.W.clsIn K (ca 0)).isSome && PySem.W.typeIn K (.ref (ca 0)) == some (.type "type")) = true := by
    have h2 : (PySem.W.clsIn K (ca 0)).isSome = true := c.i
    rw [h2, c.t] <;> rfl
  have e3 := T.sb i 0 hi (by decide)
  show (if (PySem.W.subIn K (.ref (ca 0)) (.type "BaseException") == some true) = true then (if ((PySem.W.clsIn K (ca 0)).isSome && PySem.W.typeIn K (.ref (ca 0)) == some (.type "type")) = true then PySem.W.subIn K (.ref (ca i)) (.ref (ca 0)) else none) else none) = some true
  rw [if_pos e1, if_pos e2, e3]
  unfold eSub
  simp
theorem kitOne_of {t c : Value} {b : Bool} (h : PySem.W.kitCls K t c = some b) (hb : t = c → b = true) : PySem.W.kitOne K t c = some b := by
  unfold PySem.W.kitOne
  by_cases e : (t == c) = true
  · rw [if_pos e, hb (eq_of_beq e)]
  · rw [if_neg e, h]
theorem kitCls_ref {t : Value} {C : Addr} {b : Bool} (h1 : PySem.W.isClsIn K C = true) (h2 : PySem.W.typeIn K (.ref C) = some (.type "type")) (h : PySem.W.subIn K t (.ref C) = some b) : PySem.W.kitCls K t (.ref C) = some b := by
  have e2 : ((PySem.W.clsIn K C).isSome && PySem.W.typeIn K (.ref C) == some (.type "type")) = true := by
    have h1' : (PySem.W.clsIn K C).isSome = true := h1
    rw [h1', h2] <;> rfl
  show (if ((PySem.W.clsIn K C).isSome && PySem.W.typeIn K (.ref C) == some (.type "type")) = true then PySem.W.subIn K t (.ref C) else none) = some b
  rw [if_pos e2, h]
theorem EX.kit (T : EX K mg ca) {i j : Nat} (hi : i < 6) (hj : j < 6) : PySem.W.kitOne K (.ref (ca i)) (.ref (ca j)) = some (eSub i j) := by
  have c := T.cl j hj
  refine kitOne_of (kitCls_ref c.i c.t (T.sb i j hi hj)) fun e => ?_
  have e' : ca i = ca j := Value.ref.inj e
  have z1 := T.sb i j hi hj
  have z2 := T.sb j j hj hj
  rw [e', z2] at z1
  have z3 := Option.some.inj z1
  rw [← z3]
  unfold eSub
  simp
theorem EX.kitN (T : EX K mg ca) {j : Nat} (hj : j < 6) : PySem.W.kitOne K (.type "NoneType") (.ref (ca j)) = some false :=
  have c := T.cl j hj
  kitOne_of (kitCls_ref c.i c.t c.sn) fun e => nomatch e
theorem EX.kitV (T : EX K mg ca) {i : Nat} (hi : i < 6) : PySem.W.kitOne K (.ref (ca i)) (.type "ValueError") = some true := by
  have c := T.cl i hi
  refine kitOne_of ?_ fun e => nomatch e
  show (if PySem.W.kitMeta "ValueError" = true then PySem.W.subIn K (.ref (ca i)) (.type "ValueError") else none) = some true
  rw [if_pos (by decide +kernel), c.sv]
theorem kitNV : PySem.W.kitOne K (.type "NoneType") (.type "ValueError") = some false := kit_ty (by decide +kernel)
end

/-! ### a held error is laid -/
theorem excO_ok {P : Program} {w : World} {H : Hp} {h : Heap} {C a : Addr} {d : Option Addr} {oe : Obj} {vs : Array Value} (e : h.get? a = some oe) (z : Zc (.ref C) d oe) (hd : oe.data = .fields vs) : ObjOk P w H h a (excO C d a) :=
  ⟨⟨oe, vs, e, z.1, z.2, hd⟩, ⟨oe, e⟩, fun _ _ ⟨o, v, q, r⟩ k => ⟨o, v, k o q, r⟩⟩
section
variable {X : Cx} {pins : List (Addr × Obj)} {σ : St} {H : Hp} {s : Shared}
theorem inv_lay {a : Addr} {oe : Obj} {o : HO} (I : Inv X pins σ H s) (n0 : X.s_0.heap.get? a = none) (hn : H a = none) (e : s.heap.get? a = some oe) (nL : a ≠ X.env.locals) (nC : ∀ v, oe.data ≠ .cell v) (np : ∀ p ∈ X.pn ++ pins, p.1 ≠ a)
    (new : ObjOk X.prog X.w (upd H a o) s.heap a o) : Inv X pins σ (upd H a o) s := by
  refine ⟨I.ok, I.os, I.bare, ⟨I.base.keep, I.base.slot, fun b u e1 n hx => ?_, I.base.there, fun b xs q => ?_, fun b u xs q => ?_, fun b ps q => ?_⟩, I.loc, I.cell, ?_, fun x c ec => ?_, fun p hp => ?_, I.hok.laidN (fun _ _ z => z) hn new, I.len⟩
  · rw [upd_ne (fun z => by rw [z, n0] at e1; cases e1)]
    exact I.base.free b u e1 n hx
  · have z := I.base.tups b xs q
    rw [upd_ne (ne_of_none z hn)]
    exact z
  · have z := I.base.frzs b u xs q
    rw [upd_ne (ne_of_none z hn)]
    exact z
  · obtain ⟨m, z⟩ := I.base.tbls b ps q
    exact ⟨m, by rw [upd_ne (ne_of_none z hn)]; exact z⟩
  · rw [upd_ne (Ne.symm nL)]
    exact I.free
  · obtain ⟨v, o', ho, hd⟩ := I.cell x c ec
    rw [upd_ne (fun z => by rw [z, e] at ho; cases ho; exact nC v hd)]
    exact I.freeC x c ec
  · obtain ⟨q1, q2, q3⟩ := I.pin p hp
    exact ⟨q1, by rw [upd_ne (np p hp)]; exact q2, q3⟩
theorem inv_suite0 {a : Addr} (I : Inv X pins σ H s) : Inv (X.suite a (X.pn ++ pins)) [] σ H s :=
  ⟨I.ok.suite _ _, I.os, I.bare, I.base, I.loc, I.cell, I.free, I.freeC, fun p hp => I.pin p (by rw [List.append_nil] at hp; exact hp), I.hok, I.len⟩
theorem inv_unsuite0 {a : Addr} {pn' : List (Addr × Obj)} (I : Inv (X.suite a (X.pn ++ pins)) pn' σ H s) (ok : X.Ok) : Inv X pins σ H s :=
  ⟨ok, I.os, I.bare, I.base, I.loc, I.cell, I.free, I.freeC, fun p hp => I.pin p (List.mem_append_left _ hp), I.hok, I.len⟩
end
/-- what the clause 'except x as n' wishes, where the error is kept: slot i is n's -/
def wKeep (K : PySem.W.Frag) (c : Value) (i : Nat) (ts : TS) (D : Ends) : WX := fun cls d σ H =>
  PySem.W.exmOne K cls c = some true ∧ ∃ C, cls = .ref C ∧ ∀ a, H a = none → ts { nx := fun σ' H' => D.nx (σ'.set i none) H', rt := D.rt, bk := fun σ' H' => D.bk (σ'.set i none) H', ct := fun σ' H' => D.ct (σ'.set i none) H' } (σ.set i (some (.ref a))) (upd H a (excO C d a))
section
variable {X : Cx} {x n : Str} {c : Value} {i : Nat} {body suite : List Stmt} {b₀ : Stmt} {np pos pos' : Pos} {tb : WX → TS} {ts : TS}
theorem ps_try_keep (hex : X.ex = []) (hs : X.stack = X.env :: X.outer) (hf : X.env.frame = some X.env.locals) (hN : X.N.Nodup) (hi : X.N[i]? = some n) (hln : X.env.kindOf n = some .local) (hc : Names X x c)
    (hb : ∀ (W : WX) (pn : List (Addr × Obj)) (xe : Value → Shared → Prop), Takes (X.tr pn xe) W → PassesOwn (model X.prog X.w) X.A X.env xe → PSs (X.tr pn xe) body (tb W))
    (hsu : ∀ (a : Addr) (pn : List (Addr × Obj)), PSs (X.suite a pn) (b₀ :: suite) ts) :
    PS X (.Try body [.ExceptHandler (some (.Name x np)) (some n) (b₀ :: suite) pos'] [] [] pos) (fun D σ H => tb (wKeep X.K c i ts D) D σ H) := by
  refine ⟨fun pins s σ H D I h => ?_⟩
  have ok := I.ok
  have hfr : X.A.frames = some (X.env :: X.outer) := by rw [ok.frames, hs]
  have hloc : Loc X.env.scope n := .inl hln
  refine wpAny_Try_except ?_
  refine wpAny_mono ((hb (wKeep X.K c i ts D) (X.pn ++ pins) (fun e s₁ => wpAny (model X.prog X.w) X.A (noteFrame e X.env) (fun _ s₂ => wpAny (model X.prog X.w) X.A (setFlight e none) (fun _ s₃ =>
    wpAny (model X.prog X.w) X.A (handleBy e X.env [.ExceptHandler (some (.Name x np)) (some n) (b₀ :: suite) pos']) (SP X pins D) X.xe s₃) X.xe s₂) X.xe s₁) (fun u s' xx => ?_) PassesOwn.looking).run [] s σ H D (I.toTry _) h) (fun f s1 hsp => ?_) (fun e s1 he => he)
  · obtain ⟨a, B, sI, pins', σ', H', cls, d, rfl, J', nb, up, sky, na, os, ag, hb1, C, rfl, hyes⟩ := xx
    have J : Inv X pins σ' H' sI := J'.ofTry ok
    have sky' : Sky B (X.env :: X.outer) a (Zc (.ref C) d) X.env.locals s'.heap := by rw [← hs]; exact sky
    show wpAny (model X.prog X.w) X.A (noteFrame (.ref a) X.env) _ _ _
    refine Sky.land Zc.steady hfr hf sky' fun h3 fl3 up3 => ?_
    have J3 : Inv X pins σ' H' { s' with heap := h3 } := J.landed nb fl3.1 (up.trans up3) os ag
    obtain ⟨oe3, vs3, he3, hz3, hd3⟩ := fl3.there
    have notFr : ∀ {h : Heap} {o : Obj} {vs : Array Value}, h.FunFrames B (X.env :: X.outer) → h.get? a = some o → o.data = .fields vs → a ∉ frs (X.env :: X.outer) := fun {h o vs} ff e dd hm => by
      obtain ⟨_, o', e', hnf⟩ := ff.mem hm
      rw [e] at e'; cases e'
      exact hnf _ dd
    have nfr := notFr fl3.2.2.1 he3 hd3
    have nL : a ≠ X.env.locals := fun z => nfr (List.mem_filterMap.mpr ⟨X.env, List.mem_cons_self, by rw [hf, z]⟩)
    have nI : sI.heap.get? a = none := by
      cases e : sI.heap.get? a with
      | none => rfl
      | some o =>
        have z := nb a o e (by rw [hs]; exact nfr)
        have z2 : B.get? a = none := fl3.2.1
        rw [z] at z2
        cases z2
    have n0 : X.s_0.heap.get? a = none := by
      cases e : X.s_0.heap.get? a with
      | none => rfl
      | some o =>
        obtain ⟨o', z⟩ := J.base.there a o e (by rw [hex]; exact fun z => nomatch z)
        rw [nI] at z
        cases z
    have npin : ∀ p ∈ X.pn ++ pins, p.1 ≠ a := fun p hp z => by
      have q := (J.pin p hp).1
      rw [z, nI] at q
      cases q
    have S3 : Inv (X.suite a (X.pn ++ pins)) [] σ' H' { s' with heap := h3 } := inv_suite0 J3
    refine wpAny_handleBy_cons (codeAny_handlers_test ?_) (by intro q; cases q)
    have LT : PySem.W.Looks (model X.prog X.w) h3 (typeOf (.ref a)) (.ref C) := fun A Q E s k q => wpAny_typeOf_ref (k _ _ he3) (by rw [hz3.1]; exact q)
    have LM := PySem.W.exm_one (M := model X.prog X.w) (J3.kIn) LT hb1
    have test : ∀ {Q : Value → Shared → Prop} {E : Value → Shared → Prop}, Q c { s' with heap := h3 } → wpAny (model X.prog X.w) (X.A.mark (some (.ref a))) (eval (.Name x np) X.env) Q E { s' with heap := h3 } := fun {Q E} q => by
      obtain ⟨hg, hdbg, hm | ⟨hm, hv, hnn⟩⟩ := hc
      · exact ld_glob (X := X.suite a (X.pn ++ pins)) S3 hg hm q hdbg
      · exact ld_blt (X := X.suite a (X.pn ++ pins)) S3 hg hm hv q hnn hdbg
    refine test (LM.here ?_)
    refine codeAny_handlers_suite_as ?_
    refine HandSPX.lands_againZ fl3 fun h4 fl4 up4 => ?_
    have J4 : Inv X pins σ' H' { s' with heap := h4 } := J.landed nb fl4.1 ((up.trans up3).trans up4) os ag
    obtain ⟨oe4, vs4, he4, hz4, hd4⟩ := fl4.there
    have J5 : Inv X pins σ' (upd H' a (excO C d a)) { s' with heap := h4 } := inv_lay J4 n0 na he4 nL (fun v z => by rw [hd4] at z; cases z) npin (excO_ok he4 hz4 hd4)
    have S4 : Inv (X.suite a (X.pn ++ pins)) [] σ' (upd H' a (excO C d a)) { s' with heap := h4 } := inv_suite0 J5
    refine store_ok (X := X.suite a (X.pn ++ pins)) (v := .ref a) S4 hN hi hloc rfl (fun s5 S5 => ?_) (.inr hln)
    refine wpAny_mono ((hsu a (X.pn ++ pins)).run [] s5 _ _ _ S5 (hyes a na)) (fun f s6 hsp => ?_) (fun _ _ z => False.elim z)
    have end_ : ∀ {σ6 : St} {H6 : Hp} {Q : Shared → Prop}, Inv (X.suite a (X.pn ++ pins)) [] σ6 H6 s6 → (∀ s7, Inv X pins (σ6.set i none) H6 s7 → Q s7) →
        wpAny (model X.prog X.w) X.A (do bindName X.env n .none; unbindBehindTheSuite X.env n pos') (fun _ s7 => Q s7) X.xe s6 := fun {σ6 H6 Q} S6 hq => gone_ok (inv_unsuite0 S6 ok) hN hi hln hq
    cases f with
    | next =>
      obtain ⟨σ6, H6, S6, q6⟩ := hsp
      exact end_ S6 fun s7 J7 => ⟨_, _, J7, q6⟩
    | brk =>
      obtain ⟨σ6, H6, S6, q6⟩ := hsp
      exact end_ S6 fun s7 J7 => ⟨_, _, J7, q6⟩
    | cont =>
      obtain ⟨σ6, H6, S6, q6⟩ := hsp
      exact end_ S6 fun s7 J7 => ⟨_, _, J7, q6⟩
    | ret u =>
      obtain ⟨v6, σ6, H6, S6, r6, q6⟩ := hsp
      exact end_ S6 fun s7 J7 => ⟨_, _, _, J7, r6, q6⟩
  · cases f with
    | next =>
      obtain ⟨σ', H', J', q⟩ := hsp
      exact wpAny_execs_nil ⟨σ', H', J'.ofTry ok, q⟩
    | brk =>
      obtain ⟨σ', H', J', q⟩ := hsp
      exact ⟨σ', H', J'.ofTry ok, q⟩
    | cont =>
      obtain ⟨σ', H', J', q⟩ := hsp
      exact ⟨σ', H', J'.ofTry ok, q⟩
    | ret u =>
      obtain ⟨v, σ', H', J', r, q⟩ := hsp
      exact ⟨v, σ', H', J'.ofTry ok, r, q⟩
end
end PF

namespace PF
open PySem L2

/-! ### raise -/
section
variable {ca : Nat → Addr} {X : Cx} {E : XK}
theorem jp_raiseT (i : Nat) {x m : Str} {j : Nat} {p p2 pos pos2 : Pos} (T : EX X.K X.mg ca) (hc : X.calm = true) (tk : Takes X (fun cls d _ H => E cls d H)) (hg : Gl X x := by rfl) (hi : i < 5 := by decide) (hx : eNm i = x := by rfl) (hdb : (x == ("__debug__" : Str)) = false := by decide) :
    JP ca X E (.Raise (some (.Call (.Name x p) [.Constant (.str m) j p2] [] pos)) none pos2) (fun _ σ H => E (.ref (ca i)) none H) (fun _ => .err ⟨i, none⟩) := by
  have c := T.cl i (by omega)
  rw [hx] at c
  refine ⟨ps_raise hc tk (pmk_own PySem.F.excBase_ValueError (T.x i hi) c.g c.k (raises_own c.b c.t) hg hdb), fun G0 H0 G H ρ σ rep en hns D nx rt er => ?_⟩
  exact er ⟨i, none⟩ rfl G H _ _ en.nx ⟨rfl, rfl⟩
/-- NoWall's own __init__ -/
def spIni (C : Addr) : Sp := fun vs H Q _ => ∃ (a : Addr) (i : Int), vs = [.ref a, .int i] ∧ H a = some (exo a C none) ∧ ∀ dx, H dx = none → dx ≠ a → Q .non (upd (upd H dx (exd dx [(("place" : Str), .int i)])) a (exo a C (some dx)))
structure NW (P : Program) (w : World) (K : PySem.W.Frag) (mg : Str → Option Value) (base : Heap) (ca : Nat → Addr) : Prop where
  T : OexC K (ca 5)
  fn : ∃ (fI : Addr) (fd : FuncData), PySem.W.findIn K (.ref (ca 5)) "__init__" = some (some (.ref fI)) ∧ PySem.W.typeIn K (.ref fI) = some (.type "function") ∧ FnOk P w K mg base (L2.CX P w) 1 fI fd ["self", "place"] (spIni (ca 5)) ∧ Binds K fd ["self", "place"] []
theorem ok_ini {P : Program} {w : World} {K : PySem.W.Frag} {mg : Str → Option Value} {base : Heap} {C : Addr} {st : Stmt} {f : Addr} {fd : FuncData} {p1 p2 p3 p4 : Pos} (F : Fun K "__init__" "NoWall.__init__" st f fd) (S : FnScope ["self", "place"] ["self", "place"] (defScope st))
    (hb : defBody st = [.Assign [.Attribute (.Name "self" p1) "place" p2] (.Name "place" p3) p4]) (T : OexC K C) (no : PySem.W.findIn K (.ref C) "place" = some none)
    (ho : ∀ (cdv : Value) (A : Around) (outer : List PySem.Env) (s : Shared) (H : Hp) (E : XK), PSs (cxOf (L2.CX P w) P w K mg base ["self", "place"] "NoWall.__init__" (defScope st) f cdv A outer s H E) (defBody st) (tOst K "place" (tVar 0) (tVar 1))) : FnOk P w K mg base (L2.CX P w) 1 f fd ["self", "place"] (spIni C) := by
  refine F.okX S (fun vs H Q E h => ?_) (fun cdv A outer s H vs Q E hr h => ⟨tOst K "place" (tVar 0) (tVar 1), ho cdv A outer s H E, ?_⟩)
  · obtain ⟨a, i, rfl, _⟩ := h
    rfl
  · obtain ⟨a, i, rfl, ha, k⟩ := h
    exact ⟨_, rfl, _, rfl, a, C, rfl, T, no, .inl ⟨ha, fun dx h1 h2 => k dx h1 h2⟩⟩
theorem jp_raiseP {x : Str} {e : Expr} {te : TE} {Fe : Env → Rs PyData} {p pos pos2 : Pos} (T : EX X.K X.mg ca) (N : NW X.prog X.w X.K X.mg X.base ca) (hr : Room 2 X.A) (hc : X.calm = true) (tk : Takes X (fun cls d _ H => E cls d H)) (he : JS ca X E e te Fe) (hg : Gl X x := by rfl) (hx : eNm 5 = x := by rfl)
    (hdb : (x == ("__debug__" : Str)) = false := by decide) (hst : starEach [e] X.env = (false, eval e X.env) :: starEach [] X.env := by rfl) (hpl : (backTo pos (starEach [] X.env)).any (·.1) = false := by rfl) :
    JP ca X E (.Raise (some (.Call (.Name x p) [e] [] pos)) none pos2) (fun _ σ H => tMkO (ca 5) (spIni (ca 5)) [] (tCons te tNil) σ H fun cls d H' => E cls d H') (fun ρ => Fe ρ >>= fun d => intOf d >>= fun i => .err ⟨5, some i⟩) := by
  have c := T.cl 5 (by omega)
  rw [hx] at c
  obtain ⟨fI, fd, iC, tI, F1, hb⟩ := N.fn
  refine ⟨ps_raise hc tk (pmk_oex N.T iC tI F1 hr hb .nil passL hg c.g (pa_cons he.pe pa_nil hst) hdb hst hpl), fun G0 H0 G H ρ σ rep en hns D nx rt er => ?_⟩
  refine he.sem.use rep hns (fun x e G' H' cl dd n => er x e G' H' cl dd (en.nx.trans n)) fun d ed e1 G1 H1 v n1 r1 q1 hk er1 => ?_
  cases d with
  | int i =>
    cases Dp.int_v q1
    refine ⟨(by show 1 ≤ 1000; decide), fun a ha => ⟨a, i, rfl, upd_same, fun dx h1 h2 => ⟨rfl, dx, [(("place" : Str), .int i)], upd_same, ?_, ?_, ?_⟩⟩⟩
    · rw [upd_ne h2, upd_same]
    · rw [upd_ne h2] at h1
      exact h1
    · have hdx : H1 dx = none := by
        rw [upd_ne h2] at h1
        exact h1
      have fe : upd (L2.del (upd (upd (upd H1 a (exo a (ca 5) none)) dx (exd dx [(("place" : Str), .int i)])) a (exo a (ca 5) (some dx))) a) dx (.xd [(("place" : Str), .int i)]) = upd H1 dx (.xd [(("place" : Str), .int i)]) := by
        funext b
        by_cases hb : b = dx
        · rw [hb, upd_same, upd_same]
        · rw [upd_ne hb, upd_ne hb]
          by_cases hba : b = a
          · rw [hba, L2.del_same, ha]
          · rw [L2.del_ne hba, upd_ne hba, upd_ne hb, upd_ne hba]
      rw [fe]
      refine er ⟨5, some i⟩ e1 (upd G1 dx (.xd [(("place" : Str), .int i)])) _ _ _ (en.nx.trans (n1.trans (Nx.new n1.gh hdx))) ⟨rfl, dx, rfl, upd_same⟩
  | none => exact absurd rfl hk
  | bool i => exact absurd rfl hk
  | str i => exact absurd rfl hk
  | list i => exact absurd rfl hk
  | tuple i => exact absurd rfl hk
  | dict i => exact absurd rfl hk
end

/-! ### try -/
/-- the body of a try: calls whose value is dropped -/
structure JTB (ca : Nat → Addr) (X : Cx) (body : List Stmt) (tb : WX → TS) (F : Env → Rs Unit) : Prop where
  ps : ∀ (W : WX) (pn : List (Addr × Obj)) (xe : Value → Shared → Prop), Takes (X.tr pn xe) W → PassesOwn (model X.prog X.w) X.A X.env xe → PSs (X.tr pn xe) body (tb W)
  sem : ∀ (W : WX) (G H : Hp) (ρ : Env) (σ : L2.St), Rep ⟨X.K, ca⟩ G H ρ σ → F ρ ≠ .stuck → ∀ D : Ends, (F ρ = .ok () → ∀ G' H', Nx G H G' H' → D.nx σ H') → (∀ x, F ρ = .err x → ∀ G' H' cl dd, Nx G H G' H' → XR ⟨X.K, ca⟩ x cl dd G' → W cl dd σ H') → tb W D σ H
def fDrop (F : Env → Rs Sl) : Env → Rs Unit := fun ρ => F ρ >>= fun _ => .ok ()
theorem sem_callS {c : Pc} {E : XK} {f : List PyData → Rs Sl} {np : Nat} {t : TA} {F : Env → Rs (List PyData)} (h : SemG c E t F (RA c)) (hl : ∀ ds, f ds ≠ .stuck → ds.length = np) : SemG c E (fun σ H Q => t σ H fun vs H1 => spF c f np vs H1 Q E) (fCall f F) (RV c) := by
  intro G H ρ σ rep hns Q ok er
  refine h.use rep hns er fun ds ed e1 G1 H1 vs n1 r1 q1 h1 er1 => ?_
  exact ⟨G1, ds, n1.gh, q1, hl ds h1, h1, fun s es G' H' v n q => ok s (e1.trans es) G' H' v (n1.trans n) (RV.mono n1 q), er1⟩
section
variable {ca : Nat → Addr} {X : Cx} {E : XK}
theorem jtb_nil : JTB ca X [] (fun _ => tNext) (fun _ => .ok ()) := ⟨fun W pn xe tk po => pss_nil, fun W G H ρ σ rep hns D nx er => nx rfl G H (Nx.refl rep.gh)⟩
theorem jtb_call {x : Str} {k np : Nat} {fF : List PyData → Rs Sl} {e : Expr} {es : List Expr} {t : TA} {Fa : Env → Rs (List PyData)} {p pos pos2 : Pos} {rest : List Stmt} {tr : WX → TS} {Fr : Env → Rs Unit} (C : Callee X.prog X.w X.K X.mg X.base ca x k fF np) (hr : Room k X.A)
    (ha : ∀ (pn : List (Addr × Obj)) (xe : Value → Shared → Prop) (E : XK), JA ca (X.tr pn xe) E (e :: es) t Fa) (R : JTB ca X rest tr Fr)
    (hg : ∀ pn xe, Gl (X.tr pn xe) x := by intro _ _; rfl) (hdb : (x == ("__debug__" : Str)) = false := by decide) (he : starEach (e :: es) X.env = (false, eval e X.env) :: starEach es X.env := by rfl) (hpl : (backTo pos (starEach es X.env)).any (·.1) = false := by rfl)
    (hs : swapsWith (.Call (.Name x p) (e :: es) [] pos) none pos2.line X.env = pure false := by rfl) :
    JTB ca X (.Expr (.Call (.Name x p) (e :: es) [] pos) pos2 :: rest) (fun W => tSeq (tDrop (tCallS (spF ⟨X.K, ca⟩ fF np) (WE W) t)) (tr W)) (fun ρ => fDrop (fCall fF Fa) ρ >>= fun _ => Fr ρ) := by
  obtain ⟨f, fd, ps, F, hm, hk, hb⟩ := C.ex
  refine ⟨fun W pn xe tk po => pss_cons (ps_expr (pe_callS (X := X.tr pn xe) F hr (hg pn xe) hm hk hb (fun σ => passAt tk σ) (ha pn xe E0).pa hdb he hpl) hs) (R.ps W pn xe tk po), fun W G H ρ σ rep hns D nx er => ?_⟩
  have sm := (ha [] (fun _ _ => False) (fun cls d H => W cls d σ H)).sem
  refine sem_callS (f := fF) (np := np) sm C.len G H ρ σ rep (fun z => hns (by show (fDrop (fCall fF Fa) ρ >>= fun _ => Fr ρ) = _; unfold fDrop; rw [z]; rfl)) (fun v H1 => tr W D σ H1) (fun s es' G' H' v n q => ?_) fun y ey G' H' cl dd n xr => ?_
  · have e1 : (fDrop (fCall fF Fa) ρ >>= fun _ => Fr ρ) = Fr ρ := by unfold fDrop; rw [es']; rfl
    rw [e1] at hns nx er
    exact R.sem W G' H' ρ σ (rep.nx n) hns D (fun z G2 H2 n2 => nx z G2 H2 (n.trans n2)) fun y ey G2 H2 cl dd n2 xr => er y ey G2 H2 cl dd (n.trans n2) xr
  · refine er y ?_ G' H' cl dd n xr
    unfold fDrop
    rw [ey]
    rfl
theorem jtb_if {c : Expr} {b : List Stmt} {tc : TT} {tb : WX → TS} {Fc : Env → Rs Bool} {Fb : Env → Rs Unit} {pos : Pos} {rest : List Stmt} {tr : WX → TS} {Fr : Env → Rs Unit} (hc : ∀ (pn : List (Addr × Obj)) (xe : Value → Shared → Prop) (E : XK), JT ca (X.tr pn xe) E c tc Fc) (hb : JTB ca X b tb Fb) (R : JTB ca X rest tr Fr) :
    JTB ca X (.If c b [] pos :: rest) (fun W => tSeq (tIfS tc (tb W) tNext) (tr W)) (fun ρ => Fc ρ >>= fun k => (if k = true then Fb ρ else .ok ()) >>= fun _ => Fr ρ) := by
  refine ⟨fun W pn xe tk po => pss_cons (ps_if (hc pn xe E0).pt (hb.ps W pn xe tk po) pss_nil) (R.ps W pn xe tk po), fun W G H ρ σ rep hns D nx er => ?_⟩
  refine (hc [] (fun _ _ => False) (fun cls d H => W cls d σ H)).sem.use rep hns (fun y ey G' H' cl dd n xr => er y ey G' H' cl dd n xr) fun k ek e1 G1 H1 v n1 r1 q1 hk _ => ?_
  cases q1
  rw [e1] at nx er
  cases k with
  | true =>
    show tb W _ σ H1
    have hns1 : (Fb ρ >>= fun _ => Fr ρ) ≠ .stuck := hk
    have nx1 : (Fb ρ >>= fun _ => Fr ρ) = .ok () → _ := nx
    have er1 : ∀ x, (Fb ρ >>= fun _ => Fr ρ) = .err x → _ := er
    refine hb.sem W G1 H1 ρ σ r1 (fun z => hns1 (by rw [z]; rfl)) _ (fun z G2 H2 n2 => ?_) fun y ey G2 H2 cl dd n2 xr => er1 y (by rw [ey]; rfl) G2 H2 cl dd (n1.trans n2) xr
    have e2 : (Fb ρ >>= fun _ => Fr ρ) = Fr ρ := by rw [z]; rfl
    rw [e2] at hns1 nx1 er1
    exact R.sem W G2 H2 ρ σ (r1.nx n2) hns1 D (fun z G3 H3 n3 => nx1 z G3 H3 ((n1.trans n2).trans n3)) fun y ey G3 H3 cl dd n3 xr => er1 y ey G3 H3 cl dd ((n1.trans n2).trans n3) xr
  | false =>
    show tr W D σ H1
    have hns1 : Fr ρ ≠ .stuck := hk
    exact R.sem W G1 H1 ρ σ r1 hns1 D (fun z G3 H3 n3 => nx z G3 H3 (n1.trans n3)) fun y ey G3 H3 cl dd n3 xr => er y ey G3 H3 cl dd (n1.trans n3) xr
/-- try: body except WallError as n: y = n (n in slot i, y in slot j) -/
def fTry (i j : Nat) (B : Env → Rs Unit) : Env → Rs Out := fun ρ => match B ρ with
  | .ok _ => .ok (.nx ρ)
  | .err x => if x.cls < 6 ∧ i < ρ.length then .ok (.nx (((ρ.set i .no).set j (.exn x)).set i .no)) else .stuck
  | .stuck => .stuck
theorem ent_no {G0 H0 G H : Hp} {ρ : Env} {σ : L2.St} (i : Nat) (o : Option V) (en : Ent G0 H0 G H ρ σ) : Ent G0 H0 G H (ρ.set i .no) (σ.set i o) := by
  refine ⟨en.nx, fun k s p e hs f => ?_⟩
  by_cases hk : i = k
  · rw [List.getElem?_set, if_pos hk] at e
    split at e
    · cases e; cases hs
    · cases e
  · rw [List.getElem?_set, if_neg hk] at e f
    exact en.own k s p e hs f
theorem jp_try (i j : Nat) {n y : Str} {body : List Stmt} {tb : WX → TS} {B : Env → Rs Unit} {np py pn pa pos pos' : Pos} (T : EX X.K X.mg ca) (hB : JTB ca X body tb B) (hN : X.N.Nodup) (hi : X.N[i]? = some n) (hj : X.N[j]? = some y) (hln : X.env.kindOf n = some .local) (hly : X.env.kindOf y = some .local)
    (h1 : (n == ("__debug__" : Str)) = false := by decide) (h2 : (n == ("__classdict__" : Str)) = false := by decide) (hg : Gl X "WallError" := by rfl) (hex : X.ex = [] := by rfl) (hs : X.stack = X.env :: X.outer := by rfl) (hf : X.env.frame = some X.env.locals := by rfl) (hsw : swapsWith (.Name n pn) (some (.Name y py)) pa.line X.env = pure false := by rfl) :
    JP ca X E (.Try body [.ExceptHandler (some (.Name "WallError" np)) (some n) [.Assign [.Name y py] (.Name n pn) pa] pos'] [] [] pos) (fun D σ H => tb (wKeep X.K (.ref (ca 0)) i (tAsg (tVar i) (gName j)) D) D σ H) (fTry i j B) := by
  have c := T.cl 0 (by decide)
  have vis : ∀ (a : Addr) (pn' : List (Addr × Obj)), PE (X.suite a pn') (.Name n pn) (tVar i) := fun a pn' => pe_var (X := X.suite a pn') hi (.inl hln) h1 h2
  refine ⟨ps_try_keep hex hs hf hN hi hln ⟨hg, by decide, .inl c.g⟩ hB.ps (fun a pn' => pss_one (ps_set (X := X.suite a pn') (i := j) hN hj (.inl hly) (vis a pn') hsw (.inr hly))), fun G0 H0 G H ρ σ rep en hns D nx rt er => ?_⟩
  have nx0 := nx
  unfold fTry at hns nx
  refine hB.sem _ G H ρ σ rep (fun z => by rw [z] at hns; exact hns rfl) D (fun z G' H' n' => ?_) fun x ex G' H' cl dd n' xr => ?_
  · rw [z] at nx
    exact nx ρ rfl G' H' σ (rep.nx n') (en.go n')
  · rw [ex] at hns nx
    by_cases hx : x.cls < 6 ∧ i < ρ.length
    · have eF : fTry i j B ρ = .ok (.nx (((ρ.set i .no).set j (.exn x)).set i .no)) := by unfold fTry; rw [ex]; exact if_pos hx
      replace nx := nx0 _ eF
      obtain ⟨rfl, hp⟩ := xr
      refine ⟨T.exm hx.1, _, rfl, fun a ha => ?_⟩
      have ga : G' a = none := n'.gh.back ha
      have m : Nx G' H' (upd G' a (excO (ca x.cls) dd a)) (upd H' a (excO (ca x.cls) dd a)) := Nx.new n'.gh ha
      have rep1 : Rep ⟨X.K, ca⟩ G' H' (ρ.set i .no) (σ.set i (some (.ref a))) := (rep.nx n').set rfl trivial
      have en1 : Ent G0 H0 G' H' (ρ.set i .no) (σ.set i (some (.ref a))) := ent_no i _ (en.go n')
      have hil : i < σ.length := by
        rw [← rep.len]
        exact hx.2
      refine ⟨.ref a, by rw [List.getElem?_set_self hil], ?_⟩
      have q : RV ⟨X.K, ca⟩ G' H' (upd G' a (excO (ca x.cls) dd a)) (upd H' a (excO (ca x.cls) dd a)) (.ref a) (.exn x) := by
        refine ⟨a, dd, rfl, upd_same, ?_⟩
        cases hpl : x.place with
        | none => rw [hpl] at hp; exact hp
        | some pl =>
          rw [hpl] at hp
          obtain ⟨d, q1, q2⟩ := hp
          exact ⟨d, q1, m.g _ _ q2⟩
      obtain ⟨rep2, en2⟩ := rep_take j rep1 en1 m q
      exact nx _ _ _ (rep2.set rfl trivial) (ent_no i _ en2)
    · exact absurd (if_neg hx) hns
end

/-! ### what is asked of a held error -/
section
variable {ca : Nat → Addr} {X : Cx} {E : XK}
/-- a held error of class i, or a value of a known type -/
def TyE (K : PySem.W.Frag) (ca : Nat → Addr) (H : Hp) (x : V) (t : Value) : Prop := TyX K H x t ∨ ∃ (a : Addr) (i : Nat) (d : Option Addr), x = .ref a ∧ t = .ref (ca i) ∧ i < 6 ∧ H a = some (excO (ca i) d a) ∧ (d = none ∨ ∃ dd fs, d = some dd ∧ H dd = some (.xd fs))
theorem kit_ofE {pins : List (Addr × Obj)} {σ : L2.St} {H : Hp} {s : Shared} (T : EX X.K X.mg ca) {x : V} {u t : Value} (I : Inv X pins σ H s) (rx : RelV x u) (ty : TyE X.K ca H x t) : ∃ P : Heap → Prop, PySem.W.KitX X.K u t P ∧ P s.heap ∧ u ≠ .builtin "__main__.__loader__#opaque" := by
  rcases ty with h | ⟨a, i, d, rfl, rfl, hi, ha, hd⟩
  · exact kit_of I rx h
  · cases (show u = Value.ref a from rx)
    have c := T.cl i hi
    obtain ⟨⟨oe, vs, e1, e2, e3, e4⟩, _, _⟩ := (show ObjOk X.prog X.w H s.heap a (excO (ca i) d a) from I.hok a _ ha)
    have hcl : (PySem.W.clsIn X.K (ca i)).isSome = true := c.i
    rcases hd with rfl | ⟨dd, fs, rfl, hdd⟩
    · exact ⟨_, PySem.W.kitx_exc (ox := oe) (od := none) hcl c.ga c.gg c.b c.ha T.hn T.ht c.hm, ⟨e1, e2, by unfold PySem.W.notCls; rw [e4] <;> rfl, by rw [e3] <;> trivial⟩, fun z => nomatch z⟩
    · obtain ⟨o, ho⟩ := objOk_get (I.hok dd _ hdd)
      exact ⟨_, PySem.W.kitx_exc (ox := oe) (od := some o) hcl c.ga c.gg c.b c.ha T.hn T.ht c.hm, ⟨e1, e2, by unfold PySem.W.notCls; rw [e4] <;> rfl, by rw [e3]; exact ho⟩, fun z => nomatch z⟩
def rIsE1 (K : PySem.W.Frag) (ca : Nat → Addr) : List V → Hp → VK → Prop := fun xs H Q => ∃ (x c : V) (t u : Value) (b : Bool), xs = [x, c] ∧ ClsV c u ∧ TyE K ca H x t ∧ PySem.W.kitOne K t u = some b ∧ Q (.bl b) H
def rIsET (K : PySem.W.Frag) (ca : Nat → Addr) : List V → Hp → VK → Prop := fun xs H Q => ∃ (x : V) (tp : Addr) (cs : List V) (t : Value) (us : List Value) (b : Bool), xs = [x, .ref tp] ∧ H tp = some (.tup cs) ∧ Paired ClsV cs us ∧ TyE K ca H x t ∧ PySem.W.kitAny K t us = some b ∧ Q (.bl b) H
theorem call_isE1 (T : EX X.K X.mg ca) : CallR X (.builtin "isinstance") (rIsE1 X.K ca) := by
  intro pins s σ H xs us Q I r h
  obtain ⟨x, c, t, u, b, rfl, k, ty, e, q⟩ := h
  obtain ⟨u1, u2, rfl, r1, r2⟩ := vals2 r
  have e2 := k.eq r2
  subst e2
  obtain ⟨P, Z, p, hx⟩ := kit_ofE T I r1 ty
  exact PySem.W.kia_one Z I.kIn p e hx fun tk => ⟨.bl b, H, I.tok tk, rfl, q⟩
theorem call_isET (T : EX X.K X.mg ca) : CallR X (.builtin "isinstance") (rIsET X.K ca) := by
  intro pins s σ H xs us Q I r h
  obtain ⟨x, tp, cs, t, ws, b, rfl, hT, k, ty, e, q⟩ := h
  obtain ⟨u1, u2, rfl, r1, r2⟩ := vals2 r
  cases (show u2 = Value.ref tp from r2)
  obtain ⟨P, Z, p, hx⟩ := kit_ofE T I r1 ty
  obtain ⟨_, its, rv, o, h1, h2, n, h3⟩ := (show ObjOk X.prog X.w H s.heap tp (.tup cs) from I.hok tp _ hT)
  have e3 := ClsV.all k rv
  subst e3
  obtain ⟨oc, od, dt, sl⟩ := o
  simp only at h2 h3
  subst h2 h3
  exact PySem.W.kia_tup Z I.kIn p h1 e hx fun tk => ⟨.bl b, H, I.tok tk, rfl, q⟩
/-- the answer for a slot: f for an error's class, false for None -/
def isES (f : Nat → Bool) : Option Sl → Rs PyData
  | some (.exn x) => if x.cls < 6 then .ok (.bool (f x.cls)) else .stuck
  | some (.sh .none) => .ok (.bool false)
  | _ => .stuck
def fIsE (i : Nat) (f : Nat → Bool) : Env → Rs PyData := fun ρ => isES f ρ[i]?
/-- the slot's value is a held error of class k -/
def IsExn (ca : Nat → Addr) (G : Hp) (v : V) (k : Nat) : Prop := ∃ (a : Addr) (d : Option Addr), v = .ref a ∧ k < 6 ∧ G a = some (excO (ca k) d a) ∧ (d = none ∨ ∃ dd fs, d = some dd ∧ G dd = some (.xd fs))
theorem IsExn.ty {K : PySem.W.Frag} {G H : Hp} {v : V} {k : Nat} (h : IsExn ca G v k) (e : Ex G H) : TyE K ca H v (.ref (ca k)) := by
  obtain ⟨a, d, rfl, hk, ha, hd⟩ := h
  refine .inr ⟨a, k, d, rfl, rfl, hk, e _ _ ha, ?_⟩
  rcases hd with rfl | ⟨dd, fs, rfl, hdd⟩
  · exact .inl rfl
  · exact .inr ⟨dd, fs, rfl, e _ _ hdd⟩
theorem IsExn.lt {G : Hp} {v : V} {k : Nat} (h : IsExn ca G v k) : k < 6 := by
  obtain ⟨a, d, rfl, hk, _⟩ := h
  exact hk
theorem ty_non {K : PySem.W.Frag} {H : Hp} : TyE K ca H .non (.type "NoneType") := .inl (.base .non)
theorem rep_ty {c : Pc} {G H : Hp} {ρ : Env} {σ : L2.St} {i : Nat} {f : Nat → Bool} (rep : Rep c G H ρ σ) (hns : isES f ρ[i]? ≠ .stuck) : ∃ v, σ[i]? = some (some v) ∧
    ((∃ k, IsExn c.ca G v k ∧ isES f ρ[i]? = .ok (.bool (f k))) ∨ (v = .non ∧ isES f ρ[i]? = .ok (.bool false))) := by
  cases hs : ρ[i]? with
  | none => rw [hs] at hns; exact absurd rfl hns
  | some s =>
    rw [hs] at hns
    obtain ⟨o, e1, q⟩ := rep.sl i s hs
    cases s with
    | no => exact absurd rfl hns
    | ol ds => exact absurd rfl hns
    | od ds => exact absurd rfl hns
    | sh d =>
      obtain ⟨v, rfl, q⟩ := q
      cases d with
      | none =>
        cases q
        exact ⟨_, e1, .inr ⟨rfl, rfl⟩⟩
      | bool i => exact absurd rfl hns
      | int i => exact absurd rfl hns
      | str i => exact absurd rfl hns
      | list i => exact absurd rfl hns
      | tuple i => exact absurd rfl hns
      | dict i => exact absurd rfl hns
    | exn x =>
      obtain ⟨v, rfl, a, dd, rfl, ha, hp⟩ := q
      unfold isES at hns
      by_cases hx : x.cls < 6
      · refine ⟨_, e1, .inl ⟨x.cls, ⟨a, dd, rfl, hx, ha, ?_⟩, if_pos hx⟩⟩
        cases hpl : x.place with
        | none => rw [hpl] at hp; exact .inl hp
        | some pl =>
          rw [hpl] at hp
          obtain ⟨d, q1, q2⟩ := hp
          exact .inr ⟨d, _, q1, q2⟩
      · exact absurd (if_neg hx) hns
/-- isinstance(x, C), C an own error class -/
theorem js_isE (i j : Nat) {x y : Str} {p p1 p2 pos : Pos} (T : EX X.K X.mg ca) (ha : PE X (.Name x p1) (tVar i)) (hm : X.mg "isinstance" = none) (hj : j < 6 := by decide) (hy : eNm j = y := by rfl) (hgT : Gl X y := by rfl) (hg : Gl X "isinstance" := by rfl) (hd : (y == ("__debug__" : Str)) = false := by decide)
    (hst : starEach [.Name x p1, .Name y p2] X.env = (false, eval (.Name x p1) X.env) :: starEach [.Name y p2] X.env := by rfl) (hst2 : starEach [.Name y p2] X.env = (false, eval (.Name y p2) X.env) :: starEach [] X.env := by rfl) :
    JS ca X E (.Call (.Name "isinstance" p) [.Name x p1, .Name y p2] [] pos) (tCB (rIsE1 X.K ca) (tCons (tVar i) (tCons (tC (.ref (ca j))) tNil))) (fIsE i (fun k => eSub k j)) := by
  have c := T.cl j hj
  rw [hy] at c
  refine ⟨pe_callB (call_isE1 T) hg hm (by decide +kernel) (pa_cons ha (pa_cons (pe_glob (v := .ref (ca j)) hgT c.g rfl hd) pa_nil hst2) hst) (he := hst), fun G H ρ σ rep hns Q ok er => ?_⟩
  obtain ⟨v, e1, h⟩ := rep_ty rep hns
  refine ⟨v, e1, ?_⟩
  rcases h with ⟨k, ty, ek⟩ | ⟨rfl, ek⟩
  · exact ⟨v, .ref (ca j), _, _, _, rfl, .own _, ty.ty rep.gh, T.kit ty.lt hj, ok _ ek G H _ (Nx.refl rep.gh) (.bl _)⟩
  · exact ⟨.non, .ref (ca j), _, _, _, rfl, .own _, ty_non, T.kitN hj, ok _ ek G H _ (Nx.refl rep.gh) (.bl _)⟩
/-- isinstance(x, ValueError) -/
theorem js_isVE (i : Nat) {x : Str} {p p1 p2 pos : Pos} (T : EX X.K X.mg ca) (ha : PE X (.Name x p1) (tVar i)) (hm : X.mg "isinstance" = none) (hmV : X.mg "ValueError" = none) (hgT : Gl X "ValueError" := by rfl) (hg : Gl X "isinstance" := by rfl)
    (hst : starEach [.Name x p1, .Name "ValueError" p2] X.env = (false, eval (.Name x p1) X.env) :: starEach [.Name "ValueError" p2] X.env := by rfl) (hst2 : starEach [.Name "ValueError" p2] X.env = (false, eval (.Name "ValueError" p2) X.env) :: starEach [] X.env := by rfl) :
    JS ca X E (.Call (.Name "isinstance" p) [.Name x p1, .Name "ValueError" p2] [] pos) (tCB (rIsE1 X.K ca) (tCons (tVar i) (tCons (tC (.ty "ValueError")) tNil))) (fIsE i (fun _ => true)) := by
  refine ⟨pe_callB (call_isE1 T) hg hm (by decide +kernel) (pa_cons ha (pa_cons (pe_bltn (v := .ty "ValueError") hgT hmV (by decide +kernel) rfl (by decide) (by decide)) pa_nil hst2) hst) (he := hst), fun G H ρ σ rep hns Q ok er => ?_⟩
  obtain ⟨v, e1, h⟩ := rep_ty rep hns
  refine ⟨v, e1, ?_⟩
  rcases h with ⟨k, ty, ek⟩ | ⟨rfl, ek⟩
  · exact ⟨v, .ty "ValueError", _, _, _, rfl, .ty _, ty.ty rep.gh, T.kitV ty.lt, ok _ ek G H _ (Nx.refl rep.gh) (.bl _)⟩
  · exact ⟨.non, .ty "ValueError", _, _, _, rfl, .ty _, ty_non, kitNV, ok _ ek G H _ (Nx.refl rep.gh) (.bl _)⟩
/-- the names of own error classes, one after the other -/
def clsT (ca : Nat → Addr) : List Nat → TA
  | [] => tNil
  | j :: r => tCons (tC (.ref (ca j))) (clsT ca r)
structure JN (ca : Nat → Addr) (X : Cx) (es : List Expr) (js : List Nat) : Prop where
  pa : PA X es (clsT ca js)
  lt : ∀ j ∈ js, j < 6
theorem jn_nil : JN ca X [] [] := ⟨pa_nil, fun _ h => nomatch h⟩
theorem jn_cons (j : Nat) {y : Str} {p : Pos} {es : List Expr} {js : List Nat} (T : EX X.K X.mg ca) (h : JN ca X es js) (hj : j < 6 := by decide) (hy : eNm j = y := by rfl) (hgT : Gl X y := by rfl) (hd : (y == ("__debug__" : Str)) = false := by decide)
    (hst : starEach (.Name y p :: es) X.env = (false, eval (.Name y p) X.env) :: starEach es X.env := by rfl) : JN ca X (.Name y p :: es) (j :: js) := by
  have c := T.cl j hj
  rw [hy] at c
  exact ⟨pa_cons (pe_glob (v := .ref (ca j)) hgT c.g rfl hd) h.pa hst, fun k hk => by
    rcases List.mem_cons.mp hk with rfl | h2
    · exact hj
    · exact h.lt k h2⟩
theorem clsT_go {ca : Nat → Addr} {σ : L2.St} {H : Hp} : ∀ (js : List Nat) (Q : List V → Hp → Prop), Q (js.map fun j => .ref (ca j)) H → clsT ca js σ H Q
  | [], _, q => q
  | j :: r, Q, q => clsT_go r (fun vs H' => Q (.ref (ca j) :: vs) H') q
theorem clsV_all {ca : Nat → Addr} : ∀ js : List Nat, Paired ClsV (js.map fun j => V.ref (ca j)) (js.map fun j => Value.ref (ca j))
  | [] => .nil
  | j :: r => .cons (.own _) (clsV_all r)
theorem kit_anyE (T : EX X.K X.mg ca) {k : Nat} (hk : k < 6) : ∀ js : List Nat, (∀ j ∈ js, j < 6) → PySem.W.kitAny X.K (.ref (ca k)) (js.map fun j => Value.ref (ca j)) = some (js.any fun j => eSub k j)
  | [], _ => rfl
  | j :: r, h => by
    refine kitAny_cons (T.kit hk (h j List.mem_cons_self)) (fun e => ?_) fun e => ?_
    · rw [List.any_cons, e, Bool.false_or]
      exact kit_anyE T hk r fun j hj => h j (List.mem_cons_of_mem _ hj)
    · rw [List.any_cons, e, Bool.true_or]
theorem kit_anyN (T : EX X.K X.mg ca) : ∀ js : List Nat, (∀ j ∈ js, j < 6) → PySem.W.kitAny X.K (.type "NoneType") (js.map fun j => Value.ref (ca j)) = some false
  | [], _ => rfl
  | j :: r, h => kitAny_cons (T.kitN (h j List.mem_cons_self)) (fun _ => kit_anyN T r fun j hj => h j (List.mem_cons_of_mem _ hj)) fun e => nomatch e
theorem js_isET (i : Nat) {js : List Nat} {x : Str} {es : List Expr} {kt : Nat} {p p1 p2 pos : Pos} (T : EX X.K X.mg ca) (ha : PE X (.Name x p1) (tVar i)) (hes : JN ca X es js) (hm : X.mg "isinstance" = none) (hz : js.length ≤ 10 := by decide) (hg : Gl X "isinstance" := by rfl)
    (hst : starEach [.Name x p1, .Tuple es kt p2] X.env = (false, eval (.Name x p1) X.env) :: starEach [.Tuple es kt p2] X.env := by rfl) (hst2 : starEach [.Tuple es kt p2] X.env = (false, eval (.Tuple es kt p2) X.env) :: starEach [] X.env := by rfl) :
    JS ca X E (.Call (.Name "isinstance" p) [.Name x p1, .Tuple es kt p2] [] pos) (tCB (rIsET X.K ca) (tCons (tVar i) (tCons (tTup (clsT ca js)) tNil))) (fIsE i (fun k => js.any fun j => eSub k j)) := by
  refine ⟨pe_callB (call_isET T) hg hm (by decide +kernel) (pa_cons ha (pa_cons (pe_tup hes.pa) pa_nil hst2) hst) (he := hst), fun G H ρ σ rep hns Q ok er => ?_⟩
  obtain ⟨v, e1, h⟩ := rep_ty rep hns
  refine ⟨v, e1, clsT_go js _ ⟨by rw [List.length_map]; exact lim_le (Nat.le_trans hz (by decide)), fun q hq => ?_⟩⟩
  have m : Nx G H G (upd H q (.tup (js.map fun j => .ref (ca j)))) := Nx.hid rep.gh hq
  rcases h with ⟨k, ty, ek⟩ | ⟨rfl, ek⟩
  · exact ⟨v, q, _, _, _, _, rfl, upd_same, clsV_all js, ty.ty m.gh, kit_anyE T ty.lt js hes.lt, ok _ ek G _ _ m (.bl _)⟩
  · exact ⟨.non, q, _, _, _, _, rfl, upd_same, clsV_all js, ty_non, kit_anyN T js hes.lt, ok _ ek G _ _ m (.bl _)⟩
/-- x.place of a held error -/
def placeS : Option Sl → Rs PyData
  | some (.exn ⟨5, some p⟩) => .ok (.int p)
  | _ => .stuck
def fPlace (i : Nat) : Env → Rs PyData := fun ρ => placeS ρ[i]?
def tPlace (C : Addr) (te : TE) : TE := fun σ H Q => te σ H fun x H1 => ∃ (a dd : Addr) (i : Int), x = .ref a ∧ H1 a = some (excO C (some dd) a) ∧ H1 dd = some (.xd [(("place" : Str), .int i)]) ∧ Q (.int i) H1
theorem pe_place (T : EX X.K X.mg ca) (no : PySem.W.findIn X.K (.ref (ca 5)) "place" = some none) {e : Expr} {te : TE} {pos : Pos} (he : PE X e te) (hb : attributeBase e "place" X.env (eval e X.env) = eval e X.env := by rfl) : PE X (.Attribute e "place" pos) (tPlace (ca 5) te) := by
  have c := T.cl 5 (by decide)
  refine ⟨fun pins s σ H Q I h => ?_⟩
  refine attr_of hb (thn (he.run pins s σ H _ I h) fun u s1 hh => ?_)
  obtain ⟨x, H1, I1, rx, a, dd, i, rfl, ha, hdd, q⟩ := hh
  obtain rfl : u = Value.ref a := rx
  obtain ⟨⟨oe, vs, e1, e2, e3, e4⟩, _, _⟩ := (show ObjOk X.prog X.w H1 s1.heap a (excO (ca 5) (some dd) a) from I1.hok a _ ha)
  obtain ⟨mA, hns, hr⟩ := (show ObjOk X.prog X.w H1 s1.heap dd (.xd [(("place" : Str), .int i)]) from I1.hok dd _ hdd)
  obtain ⟨od, ho, hl⟩ := lookIn_ns hns
  have l : List.lookup ("place" : Str) [(("place" : Str), V.int i)] = some (V.int i) := by simp [List.lookup]
  obtain ⟨u, hu, ru⟩ := RelO.some_of (v := .int i) (o := mA "place") (by rw [← l]; exact hr "place")
  have J : PySem.W.InstAt s1.heap a oe (ca 5) (some od) := ⟨e1, e2, by unfold PySem.W.notCls; rw [e4] <;> rfl, by rw [e3]; exact ho⟩
  exact HandSPX.exc_get I1.kIn J c.ga c.gg c.b (PySem.W.findObj_own c.hd no rfl (by rw [hl, hu])) (handed_of ru) ⟨.int i, H1, I1.tok _, ru, q⟩
theorem js_place (i : Nat) {x : Str} {p pos : Pos} (T : EX X.K X.mg ca) (no : PySem.W.findIn X.K (.ref (ca 5)) "place" = some none) (ha : PE X (.Name x p) (tVar i)) (hb : attributeBase (.Name x p) "place" X.env (eval (.Name x p) X.env) = eval (.Name x p) X.env := by rfl) :
    JS ca X E (.Attribute (.Name x p) "place" pos) (tPlace (ca 5) (tVar i)) (fPlace i) := by
  refine ⟨pe_place T no ha hb, fun G H ρ σ rep hns Q ok er => ?_⟩
  unfold fPlace at hns ok
  cases hs : ρ[i]? with
  | none => rw [hs] at hns; exact absurd rfl hns
  | some s =>
    rw [hs] at hns ok
    obtain ⟨o, e1, q⟩ := rep.sl i s hs
    unfold placeS at hns ok
    split at hns
    · rename_i pl hpl
      cases hpl
      obtain ⟨v, rfl, a, dd, rfl, hga, d, rfl, hgd⟩ := q
      exact ⟨_, e1, a, d, pl, rfl, rep.gh _ _ hga, rep.gh _ _ hgd, ok _ rfl G H _ (Nx.refl rep.gh) (.int _)⟩
    · exact absurd rfl hns
/-- x is None, of a slot that may hold an error -/
def noneS : Option Sl → Rs PyData
  | some (.exn _) => .ok (.bool false)
  | some (.sh d) => .ok (.bool (isNo d))
  | _ => .stuck
def fNoneV (i : Nat) : Env → Rs PyData := fun ρ => noneS ρ[i]?
theorem sem_noneV {c : Pc} (i : Nat) : SemG c E (tOp (fun x y H Q => y = .non ∧ Q (.bl (decide (x = .non))) H) (tVar i) (tC .non)) (fNoneV i) (RS c) := by
  intro G H ρ σ rep hns Q ok er
  unfold fNoneV at hns ok
  cases hs : ρ[i]? with
  | none => rw [hs] at hns; exact absurd rfl hns
  | some s =>
    rw [hs] at hns ok
    obtain ⟨o, e1, q⟩ := rep.sl i s hs
    cases s with
    | no => exact absurd rfl hns
    | ol ds => exact absurd rfl hns
    | od ds => exact absurd rfl hns
    | sh d =>
      obtain ⟨v, rfl, q⟩ := q
      refine ⟨v, e1, rfl, ?_⟩
      rw [db_isNo (H := H) (.inl q)]
      exact ok _ rfl G H _ (Nx.refl rep.gh) (.bl _)
    | exn x =>
      obtain ⟨v, rfl, a, dd, rfl, ha, hp⟩ := q
      exact ⟨_, e1, rfl, ok _ rfl G H _ (Nx.refl rep.gh) (.bl _)⟩
end
end PF
namespace PF
open PySem L2
def caL (l : List Addr) : Nat → Addr := fun i => l.getD i 0
section
variable {ca : Nat → Addr} {X : Cx} {E : XK} {x : Str} {p pos p2 : Pos} {j : Nat}
theorem js_noneV (i : Nat) (h : PE X (.Name x p) (tVar i)) : JS ca X E (.Compare (.Name x p) [.Is] [.Constant .none j p2] pos) (tOp (fun x y H Q => y = .non ∧ Q (.bl (decide (x = .non))) H) (tVar i) (tC .non)) (fNoneV i) :=
  ⟨pe_cmpR op_isN h pe_non (nomark _), sem_noneV i⟩
theorem jt_noneV (i : Nat) (h : PE X (.Name x p) (tVar i)) : JT ca X E (.Compare (.Name x p) [.Is] [.Constant .none j p2] pos) (tTest (tOp (fun x y H Q => y = .non ∧ Q (.bl (decide (x = .non))) H) (tVar i) (tC .non))) (fB (fNoneV i)) :=
  ⟨pt_cmpR op_isN h pe_non (nomark _), sem_test (sem_noneV i)⟩
end
end PF

namespace PF
open PySem L2

/-! ### reckoning rules, continued -/
section
variable {ρ : Env} {F G : Env → Rs PyData} {Fv : Env → Rs Sl} {Fs : Env → Rs (List PyData)} {B : Env → Rs Unit} {i j : Nat}
@[simp] theorem z_isE (f : Nat → Bool) : fIsE i f ρ = isES f ρ[i]? := (rfl)
@[simp] theorem z_isEx (f : Nat → Bool) (c : Nat) (p : Option Int) : isES f (some (.exn ⟨c, p⟩)) = if c < 6 then .ok (.bool (f c)) else .stuck := (rfl)
@[simp] theorem z_isEn (f : Nat → Bool) : isES f (some (.sh .none)) = .ok (.bool false) := (rfl)
@[simp] theorem z_eSub (a b : Nat) : eSub a b = (a == b || b == 0) := (rfl)
@[simp] theorem z_drop : fDrop Fv ρ = (Fv ρ >>= fun _ => .ok ()) := (rfl)
theorem z_try : fTry i j B ρ = match B ρ with
  | .ok _ => .ok (.nx ρ)
  | .err x => if x.cls < 6 ∧ i < ρ.length then .ok (.nx (((ρ.set i .no).set j (.exn x)).set i .no)) else .stuck
  | .stuck => .stuck := rfl
@[simp] theorem z_place : fPlace i ρ = placeS ρ[i]? := (rfl)
@[simp] theorem z_placeS (p : Int) : placeS (some (.exn ⟨5, some p⟩)) = .ok (.int p) := (rfl)
@[simp] theorem z_noneV : fNoneV i ρ = noneS ρ[i]? := (rfl)
@[simp] theorem z_noneSx (x : Exn) : noneS (some (.exn x)) = .ok (.bool false) := (rfl)
@[simp] theorem z_noneSn : noneS (some (.sh .none)) = .ok (.bool true) := (rfl)
@[simp] theorem z_slRete (x : Exn) : slRet (some (.exn x)) = .ok (.exn x) := (rfl)
@[simp] theorem z_app : fApp i F ρ = (ownL ρ[i]? >>= fun ds => F ρ >>= fun d => appD ds [d] >>= fun ds' => .ok (.nx (ρ.set i (.ol ds')))) := by
  unfold fApp fMut
  simp only [z_cons, z_nil, z_ok]
  cases ownL ρ[i]? with
  | ok ds => simp only [z_ok]; cases F ρ <;> rfl
  | err x => rfl
  | stuck => rfl
@[simp] theorem z_clrF : fClr i ρ = (ownL ρ[i]? >>= fun ds => .ok (.nx (ρ.set i (.ol [])))) := by
  unfold fClr fMut
  cases ownL ρ[i]? <;> rfl
@[simp] theorem z_revF : fRevs i ρ = (ownL ρ[i]? >>= fun ds => .ok (.nx (ρ.set i (.ol ds.reverse)))) := by
  unfold fRevs fMut
  cases ownL ρ[i]? <;> rfl
@[simp] theorem z_setIx : fSetIx i F G ρ = (F ρ >>= fun d => ownL ρ[i]? >>= fun ds => G ρ >>= fun k => setP ds k d >>= fun ds' => .ok (.nx (ρ.set i (.ol ds')))) := (rfl)
theorem setP_nat {ds : List PyData} {k : Nat} {d : PyData} (h : k < ds.length) : setP ds (.int k) d = .ok (ds.set k d) := by
  have e : ixN ds.length (k : Int) = some k := by
    unfold ixN
    simp
    omega
  show (match ixN ds.length (k : Int) with
    | some j => Rs.ok (ds.set j d)
    | none => .stuck) = _
  rw [e]
theorem setP_int {ds : List PyData} {k : Int} {d : PyData} (h0 : 0 ≤ k) (h : k < ds.length) : setP ds (.int k) d = .ok (ds.set k.toNat d) := by
  have e : k = ((k.toNat : Nat) : Int) := by omega
  rw [e, setP_nat (by omega)]
  rfl
@[simp] theorem z_rep (Fb : Env → Rs PyData) : fRep Fv Fb ρ = (Fv ρ >>= fun s => Fb ρ >>= fun k => repD s k) := (rfl)
theorem repD_ok {ds : List PyData} {k : Nat} (h : ds.length * k ≤ lim) (hk : k ≤ lim) : repD (.ol ds) (.int k) = .ok (.ol (List.replicate k ds).flatten) := by
  have hz : (lim : Nat) < 2 ^ 62 := by decide
  unfold repD
  simp only [Int.toNat_natCast]
  rw [if_pos ⟨by omega, by omega, h⟩]
theorem rep_one (k : Nat) (d : PyData) : (List.replicate k [d]).flatten = List.replicate k d := by
  induction k with
  | zero => rfl
  | succ k ih => rw [List.replicate_succ, List.flatten_cons, ih, List.replicate_succ]; rfl
@[simp] theorem z_tgL (n : Nat) (Ts : Tgts) (ds : List PyData) : tgL n Ts (.list ds) ρ = if ds.length = n then Ts ds ρ else none := (rfl)
end
theorem all_truD_int (xs : List Int) : (xs.map PyData.int).all (fun d => (truD d).isSome) = true := by
  rw [List.all_eq_true]
  intro d h
  obtain ⟨i, _, rfl⟩ := List.mem_map.mp h
  rfl
theorem any_tru_int (xs : List Int) : (xs.map PyData.int).any tru = xs.any (fun i => i != 0) := by
  rw [List.any_map]
  rfl
theorem anyD_list (xs : List Int) : anyD (.list (xs.map .int)) = .ok (.bool (xs.any fun i => i != 0)) := by
  rw [← any_tru_int]
  exact if_pos (all_truD_int xs)
theorem anyD_tuple (xs : List Int) : anyD (.tuple (xs.map .int)) = .ok (.bool (xs.any fun i => i != 0)) := by
  rw [← any_tru_int]
  exact if_pos (all_truD_int xs)
/-! slices -/
theorem cutP_init (ds : List PyData) : cutP ds none (some (-1)) = ds.dropLast := by
  unfold cutP
  have e : HT.sIx ds.length ds.length (some (-1)) = ds.length - 1 := by
    show (if (-1 : Int) < 0 then ((-1 : Int) + (ds.length : Int)).toNat else min (-1 : Int).toNat ds.length) = _
    rw [if_pos (by omega)]
    omega
  rw [e, HT.sIx_none, List.drop_zero, Nat.sub_zero, List.dropLast_eq_take]
theorem cutP_take (ds : List PyData) (k : Nat) : cutP ds none (some (k : Int)) = ds.take k := by
  unfold cutP
  rw [HT.sIx_nat, HT.sIx_none, List.drop_zero, Nat.sub_zero]
  by_cases h : k ≤ ds.length
  · rw [Nat.min_eq_left h]
  · rw [Nat.min_eq_right (by omega), List.take_of_length_le (Nat.le_refl _), List.take_of_length_le (by omega)]
theorem cutP_drop (ds : List PyData) (k : Nat) : cutP ds (some (k : Int)) none = ds.drop k := by
  unfold cutP
  rw [HT.sIx_nat, HT.sIx_none, ← List.length_drop, List.take_of_length_le (Nat.le_refl _)]
  by_cases h : k ≤ ds.length
  · rw [Nat.min_eq_left h]
  · rw [Nat.min_eq_right (by omega), List.drop_of_length_le (Nat.le_refl _), List.drop_of_length_le (by omega)]
theorem cutP_mid (ds : List PyData) (a b : Nat) : cutP ds (some (a : Int)) (some (b : Int)) = (ds.drop a).take (b - a) := by
  unfold cutP
  rw [HT.sIx_nat, HT.sIx_nat]
  by_cases h : a ≤ ds.length
  · rw [Nat.min_eq_left h]
    by_cases h2 : b ≤ ds.length
    · rw [Nat.min_eq_left h2]
    · rw [Nat.min_eq_right (by omega), ← List.length_drop, List.take_of_length_le (Nat.le_refl _), List.take_of_length_le (by rw [List.length_drop]; omega)]
  · have e : min a ds.length = ds.length := Nat.min_eq_right (by omega)
    rw [e, List.drop_of_length_le (Nat.le_refl _), List.drop_of_length_le (show ds.length ≤ a by omega)]
    simp
@[simp] theorem ix_last (ds : List PyData) (d : PyData) : getP (ds ++ [d]) (-1) = .ok d := by
  unfold getP
  rw [L2.atI_last]
end PF
namespace PF
open PySem L2
@[simp] theorem z_neB (a b : Bool) : neD (.bool a) (.bool b) = .ok (.bool (!(a == b))) := (rfl)
@[simp] theorem z_eqB (a b : Bool) : eqD (.bool a) (.bool b) = .ok (.bool (a == b)) := (rfl)
@[simp] theorem z_isiBB (a : Bool) : isiD "bool" (.bool a) = .ok (.bool true) := kit_bool (.bool a)
@[simp] theorem z_isiIB (a : Bool) : isiD "int" (.bool a) = .ok (.bool true) := kit_int (.bool a)
theorem pow2_le {m n : Nat} (h : m ≤ n) : (2 : Int) ^ m ≤ 2 ^ n := by
  have := Nat.pow_le_pow_right (n := 2) (by decide) h
  exact_mod_cast this
theorem cutP_all63 (ns : List Int) (h : ns.length ≤ 63) : cutP (ns.map PyData.int) none (some 63) = ns.map .int := by
  rw [show (63 : Int) = ((63 : Nat) : Int) from rfl, cutP_take, List.take_of_length_le (by rw [List.length_map]; exact h)]
end PF
namespace PF
open PySem L2
theorem z_lend (i : Nat) (F : Env → Rs Sl) (ρ : Env) : fLend i F ρ = match ρ[i]? with
  | some (.ol _) => F (fz1 i ρ) >>= lendCk
  | _ => F ρ := (rfl)
theorem lendCk_ok {s : Sl} (h : slFree s = true) : lendCk s = .ok s := if_pos h
@[simp] theorem z_lendSh (d : PyData) : lendCk (.sh d) = if lfree d = true then .ok (.sh d) else .stuck := (rfl)
@[simp] theorem z_lfI (i : Int) : lfree (.int i) = true := by simp [lfree]
@[simp] theorem z_lfB (i : Bool) : lfree (.bool i) = true := by simp [lfree]
@[simp] theorem z_lfN : lfree .none = true := by simp [lfree]
@[simp] theorem z_lfT (ds : List PyData) : lfree (.tuple ds) = lfreeAll ds := by simp [lfree]
@[simp] theorem z_lfA0 : lfreeAll [] = true := by simp [lfreeAll]
@[simp] theorem z_lfA1 (d : PyData) (ds : List PyData) : lfreeAll (d :: ds) = (lfree d && lfreeAll ds) := by simp [lfreeAll]
theorem lfree_ints (xs : List Int) : lfreeAll (xs.map .int) = true := by
  induction xs with
  | nil => simp
  | cons x xs ih => simp [ih]
end PF

namespace PF
open PySem L2

/-! ### loops and comprehensions, reckoned -/
def natD (n : Nat) : PyData := .int (n : Int)
theorem rng1_ok {j : Int} (h : small62 j) : rng1 [.int j] = .ok (rangeD 0 j) := if_pos h
theorem rng2_ok2 {i j : Int} (h : small62 i ∧ small62 j) : rng2 [.int i, .int j] = .ok (rangeD i j) := if_pos h
theorem rng1_nat {n : Nat} (h : n < 2 ^ 60) : rng1 [.int (n : Int)] = .ok ((List.range n).map natD) := by
  have hs : small62 (n : Int) := by unfold small62; omega
  rw [rng1_ok hs]
  unfold rangeD natD
  simp
theorem rng1_int {i : Int} (h0 : 0 ≤ i) (h : i < 2 ^ 60) : rng1 [.int i] = .ok ((List.range i.toNat).map natD) := by
  have e : i = ((i.toNat : Nat) : Int) := by omega
  rw [e, rng1_nat (by omega)]
  rfl
theorem rng2_nat {a n : Nat} (h : n < 2 ^ 60) (ha : a < 2 ^ 60) : rng2 [.int (a : Int), .int (n : Int)] = .ok ((List.range (n - a)).map fun i => natD (a + i)) := by
  have hs : small62 (n : Int) := by unfold small62; omega
  have hs2 : small62 (a : Int) := by unfold small62; omega
  rw [rng2_ok2 ⟨hs2, hs⟩]
  unfold rangeD natD
  have e2 : ((n : Int) - a).toNat = n - a := by omega
  rw [e2]
  congr 1
theorem lcF_of {α : Type} {T : Tgt} {C : Env → Rs Bool} {F : Env → Rs PyData} {ρ0 : Env} (m : α → PyData) (p : α → Bool) (e : α → PyData) : ∀ (xs : List α) (acc : List PyData),
    (∀ x ∈ xs, ∃ ρ1, T (m x) ρ0 = some ρ1 ∧ C ρ1 = .ok (p x) ∧ (p x = true → F ρ1 = .ok (e x))) → acc.length + xs.length ≤ lim → lcF T C F ρ0 (xs.map m) acc = .ok (acc ++ (xs.filter p).map e)
  | [], acc, _, _ => by simp [lcF]
  | x :: xs, acc, h, hl => by
    obtain ⟨ρ1, e1, e2, e3⟩ := h x List.mem_cons_self
    rw [List.length_cons] at hl
    rw [List.map_cons]
    unfold lcF
    rw [e1]
    show (C ρ1 >>= fun b => if b = true then F ρ1 >>= fun y => (if acc.length < lim then lcF T C F ρ0 (xs.map m) (acc ++ [y]) else .stuck) else lcF T C F ρ0 (xs.map m) acc) = _
    rw [e2, z_ok]
    cases hp : p x with
    | true =>
      rw [if_pos rfl, e3 hp, z_ok, if_pos (by omega), lcF_of m p e xs (acc ++ [e x]) (fun y hy => h y (List.mem_cons_of_mem _ hy)) (by rw [List.length_append, List.length_singleton]; omega)]
      rw [List.filter_cons_of_pos hp, List.map_cons, List.append_assoc]
      rfl
    | false =>
      rw [if_neg Bool.false_ne_true, lcF_of m p e xs acc (fun y hy => h y (List.mem_cons_of_mem _ hy)) (by omega), List.filter_cons_of_neg (by rw [hp]; exact Bool.false_ne_true)]
/-- a comprehension -/
theorem lcS_of {α : Type} {S : Env → Rs (List PyData)} {T : Tgt} {C : Env → Rs Bool} {F : Env → Rs PyData} {vs : List Nat} {ρ : Env} (xs : List α) (m : α → PyData) (p : α → Bool) (e : α → PyData) (hS : S ρ = .ok (xs.map m))
    (h : ∀ x ∈ xs, ∃ ρ1, T (m x) (wipeE ρ vs) = some ρ1 ∧ C ρ1 = .ok (p x) ∧ (p x = true → F ρ1 = .ok (e x))) (hl : xs.length ≤ lim) : fLcS S T C F vs ρ = .ok (.ol ((xs.filter p).map e)) := by
  have e1 : fLc S T C F vs ρ = .ok (.ol ((xs.filter p).map e)) := by
    unfold fLc
    rw [hS, ok_bind, lcF_of m p e xs [] h (by simpa using hl)]
    rfl
  unfold fLcS
  rw [e1]
/-- .. without a test -/
theorem lcS_map {α : Type} {S : Env → Rs (List PyData)} {T : Tgt} {F : Env → Rs PyData} {vs : List Nat} {ρ : Env} (xs : List α) (m : α → PyData) (e : α → PyData) (hS : S ρ = .ok (xs.map m))
    (h : ∀ x ∈ xs, ∃ ρ1, T (m x) (wipeE ρ vs) = some ρ1 ∧ F ρ1 = .ok (e x)) (hl : xs.length ≤ lim) : fLcS S T fYes F vs ρ = .ok (.ol (xs.map e)) := by
  have k := lcS_of (C := fYes) xs m (fun _ => true) e hS (fun x hx => by
    obtain ⟨ρ1, a, b⟩ := h x hx
    exact ⟨ρ1, a, rfl, fun _ => b⟩) hl
  rw [k, List.filter_eq_self.mpr fun _ _ => rfl]
/-- a loop whose state is told -/
theorem for_fold {α σ : Type} {T : Tgt} {B : Env → Rs Out} (st : σ → Env) (m : α → PyData) (f : σ → α → σ) (I : σ → Prop) : ∀ (xs : List α) (s : σ), I s → (∀ s a, a ∈ xs → I s → I (f s a) ∧ ∃ ρ1, T (m a) (st s) = some ρ1 ∧ B ρ1 = .ok (.nx (st (f s a)))) →
    forF T B (xs.map m) (st s) = .ok (.nx (st (xs.foldl f s))) ∧ I (xs.foldl f s)
  | [], s, hi, _ => ⟨rfl, hi⟩
  | a :: xs, s, hi, h => by
    obtain ⟨hi2, ρ1, e1, e2⟩ := h s a List.mem_cons_self hi
    have ih := for_fold st m f I xs (f s a) hi2 fun s b hb hi => h s b (List.mem_cons_of_mem _ hb) hi
    refine ⟨?_, ih.2⟩
    rw [List.map_cons]
    unfold forF
    rw [e1]
    show after (B ρ1) (forF T B (xs.map m)) = _
    rw [e2, after_nx]
    exact ih.1
@[simp] theorem wipe_nil (ρ : Env) : wipeE ρ [] = ρ := rfl
end PF

namespace PF
open PySem L2

/-! ### the plain form of a row -/
def gcdF (g x : Int) : Int := Int.gcd g x
def leadF (l x : Int) : Int := if l = 0 then x else l
def gcdL (xs : List Int) : Int := xs.foldl gcdF 0
def leadL (xs : List Int) : Int := xs.foldl leadF 0
def plainBy (xs : List Int) : Int := if leadL xs < 0 then 0 - gcdL xs else gcdL xs
def plainL (xs : List Int) : List Int := xs.map fun x => x.fdiv (plainBy xs)
def plainF (s : Int × Int × Sl) (a : Int) : Int × Int × Sl := (gcdF s.1 a, leadF s.2.1 a, .sh (.int a))
theorem plainF_fold : ∀ (xs : List Int) (s : Int × Int × Sl), ∃ y, xs.foldl plainF s = (xs.foldl gcdF s.1, xs.foldl leadF s.2.1, y)
  | [], s => ⟨s.2.2, rfl⟩
  | a :: xs, s => plainF_fold xs (plainF s a)
theorem gcdF_dvd : ∀ (xs : List Int) (g : Int), (xs.foldl gcdF g ∣ g) ∧ ∀ x ∈ xs, xs.foldl gcdF g ∣ x
  | [], g => ⟨Int.dvd_refl g, fun _ h => nomatch h⟩
  | a :: xs, g => by
    obtain ⟨h1, h2⟩ := gcdF_dvd xs (gcdF g a)
    refine ⟨Int.dvd_trans h1 (Int.gcd_dvd_left g a), fun x hx => ?_⟩
    rcases List.mem_cons.mp hx with rfl | hx
    · exact Int.dvd_trans h1 (Int.gcd_dvd_right g x)
    · exact h2 x hx
theorem gcdF_nonneg : ∀ (xs : List Int) (g : Int), 0 ≤ g → 0 ≤ xs.foldl gcdF g
  | [], _, h => h
  | a :: xs, g, _ => gcdF_nonneg xs (gcdF g a) (by unfold gcdF; omega)
theorem gcdL_dvd {xs : List Int} {x : Int} (h : x ∈ xs) : gcdL xs ∣ x := (gcdF_dvd xs 0).2 x h
theorem gcdL_pos {xs : List Int} (h : ∃ x ∈ xs, x ≠ 0) : 0 < gcdL xs := by
  obtain ⟨x, hx, h0⟩ := h
  have h1 := gcdF_nonneg xs 0 (by decide)
  rcases Int.lt_or_eq_of_le h1 with q | q
  · exact q
  · have d := gcdL_dvd hx
    rw [show gcdL xs = 0 from q.symm] at d
    exact absurd (Int.zero_dvd.mp d) h0
theorem plainBy_ne {xs : List Int} (h : ∃ x ∈ xs, x ≠ 0) : plainBy xs ≠ 0 := by
  have := gcdL_pos h
  unfold plainBy
  split <;> omega
theorem plainBy_dvd {xs : List Int} {x : Int} (h : x ∈ xs) : plainBy xs ∣ x := by
  unfold plainBy
  split
  · rw [Int.zero_sub, Int.neg_dvd]; exact gcdL_dvd h
  · exact gcdL_dvd h
theorem plain_mul {xs : List Int} {x : Int} (h : x ∈ xs) : x.fdiv (plainBy xs) * plainBy xs = x := fdiv_mul_of_dvd (plainBy_dvd h)
theorem plainL_len (xs : List Int) : (plainL xs).length = xs.length := List.length_map _
theorem plain_le {xs : List Int} {x : Int} (hn : ∃ x ∈ xs, x ≠ 0) (h : x ∈ xs) : (x.fdiv (plainBy xs)).natAbs ≤ x.natAbs := by
  have := natAbs_le_mul (x := x.fdiv (plainBy xs)) (plainBy_ne hn)
  rwa [plain_mul h] at this
theorem plain_ne {xs : List Int} {x : Int} (h : x ∈ xs) (h0 : x ≠ 0) : x.fdiv (plainBy xs) ≠ 0 := fun z => by
  have := plain_mul h
  rw [z, Int.zero_mul] at this
  exact h0 this.symm
theorem gcdL_le {xs : List Int} {x : Int} (h : x ∈ xs) (h0 : x ≠ 0) : (gcdL xs).natAbs ≤ x.natAbs := Nat.le_of_dvd (Int.natAbs_pos.mpr h0) (Int.natAbs_dvd_natAbs.mpr (gcdL_dvd h))
theorem plainBy_abs (xs : List Int) : (plainBy xs).natAbs = (gcdL xs).natAbs := by
  unfold plainBy
  split
  · rw [Int.zero_sub, Int.natAbs_neg]
  · rfl
end PF

namespace PF
open PySem L2

/-! ### data that may be compared -/
structure DOk (n : Nat) (d : PyData) : Prop where
  lay : d.canLay0 = true
  dep : d.depth ≤ n
theorem dok_int (i : Int) : DOk 0 (.int i) := ⟨by simp [PyData.canLay0], by simp [PyData.depth]⟩
theorem DOk.mono {m n : Nat} {d : PyData} (h : DOk m d) (hl : m ≤ n) : DOk n d := ⟨h.lay, Nat.le_trans h.dep hl⟩
theorem dokAll {n : Nat} : ∀ {ds : List PyData}, (∀ d ∈ ds, DOk n d) → PyData.canLayAll0 ds = true ∧ PyData.depthAll ds ≤ n
  | [], _ => ⟨by simp [PyData.canLayAll0], by simp [PyData.depthAll]⟩
  | d :: ds, h => by
    obtain ⟨h1, h2⟩ := dokAll (ds := ds) fun x hx => h x (List.mem_cons_of_mem _ hx)
    obtain ⟨h3, h4⟩ := h d List.mem_cons_self
    refine ⟨by simp [PyData.canLayAll0, h1, h3], ?_⟩
    simp only [PyData.depthAll]
    omega
theorem dok_tuple {n : Nat} {ds : List PyData} (h : ∀ d ∈ ds, DOk n d) : DOk (n + 1) (.tuple ds) := by
  obtain ⟨h1, h2⟩ := dokAll h
  refine ⟨by simp only [PyData.canLay0]; exact h1, ?_⟩
  simp only [PyData.depth]
  omega
theorem dok_list {n : Nat} {ds : List PyData} (h : ∀ d ∈ ds, DOk n d) : DOk (n + 1) (.list ds) := by
  obtain ⟨h1, h2⟩ := dokAll h
  refine ⟨by simp only [PyData.canLay0]; exact h1, ?_⟩
  simp only [PyData.depth]
  omega
theorem dok_shaped {d : PyData} (h : DOk 60 d) : SeqAt.shaped d = true := by
  show (d.canLay0 && decide (d.depth ≤ 64)) = true
  rw [Bool.and_eq_true]
  exact ⟨h.lay, decide_eq_true (Nat.le_trans h.dep (by decide))⟩
theorem eqv_self {d : PyData} (h : d.canLay0 = true) : PyData.eqv d d = true := SeqAt.eqv_refl d h
theorem eqD_self {d : PyData} (h : DOk 60 d) : eqD d d = .ok (.bool true) := by
  unfold eqD
  rw [if_pos ⟨dok_shaped h, dok_shaped h⟩, eqv_self h.lay]
theorem neD_self {d : PyData} (h : DOk 60 d) : neD d d = .ok (.bool false) := by
  unfold neD
  rw [if_pos ⟨dok_shaped h, dok_shaped h⟩, eqv_self h.lay]
  rfl
/-- a tuple of ints -/
def TD (xs : List Int) : PyData := .tuple (xs.map .int)
theorem dok_TD (xs : List Int) : DOk 1 (TD xs) := dok_tuple fun d hd => by
  obtain ⟨i, _, rfl⟩ := List.mem_map.mp hd
  exact dok_int i
theorem dok_LTD (s : List (List Int)) : DOk 2 (.list (s.map TD)) := dok_list fun d hd => by
  obtain ⟨i, _, rfl⟩ := List.mem_map.mp hd
  exact dok_TD i
/-- is W among s -/
def hasTD (s : List (List Int)) (W : List Int) : Bool := (s.map TD).any fun z => PyData.eqv z (TD W)
theorem ninD_TD (s : List (List Int)) (W : List Int) : ninD (TD W) (.list (s.map TD)) = .ok (.bool (!hasTD s W)) := by
  have h1 := dok_shaped ((dok_TD W).mono (by decide))
  have h2 := dok_shaped ((dok_LTD s).mono (by decide))
  exact if_pos ⟨h1, h2⟩
theorem inD_TD (s : List (List Int)) (W : List Int) : inD (TD W) (.list (s.map TD)) = .ok (.bool (hasTD s W)) := by
  have h1 := dok_shaped ((dok_TD W).mono (by decide))
  have h2 := dok_shaped ((dok_LTD s).mono (by decide))
  exact if_pos ⟨h1, h2⟩
def addTD (s : List (List Int)) (W : List Int) : List (List Int) := if hasTD s W = true then s else s ++ [W]
theorem addTD_len (s : List (List Int)) (W : List Int) : (addTD s W).length ≤ s.length + 1 := by
  unfold addTD
  split
  · omega
  · rw [List.length_append, List.length_singleton]; omega
@[simp] theorem z_eq00 : neD (.list []) (.list []) = .ok (.bool false) := neD_self ⟨by simp [PyData.canLay0, PyData.canLayAll0], by simp [PyData.depth, PyData.depthAll]⟩
/-! the first that is not nought -/
theorem heads_lead : ∀ (ys : List Int) (l : Int), ys.foldl leadF l = if l = 0 then (ys.filter (fun i => i != 0)).headD 0 else l
  | [], l => by
    by_cases h : l = 0
    · rw [if_pos h]; exact h
    · rw [if_neg h]; rfl
  | y :: ys, l => by
    rw [List.foldl_cons, heads_lead ys]
    unfold leadF
    by_cases h : l = 0
    · rw [if_pos h, if_pos h]
      by_cases hy : y = 0
      · rw [if_pos hy, List.filter_cons_of_neg (by simp [hy])]
      · rw [if_neg hy, List.filter_cons_of_pos (by simp [hy])]
        rfl
    · rw [if_neg h, if_neg h, if_neg h]
theorem lead_init {ys : List Int} {z : Int} (h : ∃ y ∈ ys, y ≠ 0) : ∃ hd tl, ys.filter (fun i => i != 0) = hd :: tl ∧ hd ≠ 0 ∧ leadL (ys ++ [z]) = hd ∧ leadL ys = hd := by
  obtain ⟨y, hy, h0⟩ := h
  have hm : y ∈ ys.filter (fun i => i != 0) := List.mem_filter.mpr ⟨hy, by simpa using h0⟩
  have e := heads_lead ys 0
  cases hf : ys.filter (fun i => i != 0) with
  | nil => rw [hf] at hm; cases hm
  | cons hd tl =>
    have hh : hd ∈ ys.filter (fun i => i != 0) := by rw [hf]; exact List.mem_cons_self
    have hne : hd ≠ 0 := by simpa using (List.mem_filter.mp hh).2
    rw [hf, if_pos rfl] at e
    have e : ys.foldl leadF 0 = hd := e
    refine ⟨hd, tl, rfl, hne, ?_, e⟩
    unfold leadL
    rw [List.foldl_append, e]
    exact if_neg hne
theorem gcd_one {xs : List Int} (h : (1 : Int) ∈ xs) : gcdL xs = 1 := by
  have h1 := gcdL_dvd h
  have h2 := gcdL_pos ⟨1, h, by decide⟩
  exact Int.eq_one_of_dvd_one (by omega) h1
end PF

namespace PF
open PySem L2

/-! ### xs[:c] = ys, ys another list -/
theorem headBounds {c n : Nat} (h : c ≤ n) : sliceBounds none (some (c : Int)) none n = (0, (c : Int), 1) := by
  unfold sliceBounds
  simp only [Option.getD_none, show (1 : Int) > 0 by decide, if_true, show ¬ ((c : Int) < 0) by omega, if_false]
  rw [show max 0 (min (c : Int) (n : Int)) = c by omega]
section
variable {prog : Program} {w : World} {A : Around} {E : Value → Shared → Prop} {s : Shared}
theorem setHead {p b sl : Addr} {its new : Array Value} {n n2 : Nat} {vu : Value} {c : Nat} {Q : Unit → Shared → Prop} (ep : s.heap.get? p = some { cls := .type "list", data := .seq its n }) (eb : s.heap.get? b = some { cls := .type "list", data := .seq new n2 }) (hpb : p ≠ b)
    (es : s.heap.IsSliceOf sl .none vu .none) (pu : IsPart vu (some (c : Int))) (hc : c ≤ its.size) (hz : its.size + new.size ≤ sizeLine) (h : Q () { s with heap := s.heap.update p (Obj.mapSeq fun xs => xs.extract 0 0 ++ new ++ xs.extract c xs.size) }) :
    wpAny (model prog w) A (setItem (.ref p) (.ref sl) (.ref b)) Q E s := by
  have lp : s.heap.IsList p its := PySem.IsL.isList ep
  have lb : s.heap.IsList b new := PySem.IsL.isList eb
  obtain ⟨o, ho, hoc, hod⟩ := id es
  have ts : s.TypeIs (.ref sl) "slice" := ⟨o, ho, hoc⟩
  have ns : Builtin.List.listSameRef (.ref p) (.ref b) = false := by
    unfold Builtin.List.listSameRef
    exact beq_false_of_ne (by first | exact hpb | exact fun z => hpb (Value.ref.inj z))
  have big : ((fun xs : Array Value => xs.extract 0 0 ++ new ++ xs.extract c xs.size) its).size ≤ sizeLine + 1 := by
    simp only [Array.size_append, Array.size_extract]; omega
  have mx : (max (0 : Int) (c : Int)).toNat = c := by omega
  have bd := (sliceIndices_raw none (some (c : Int)) none its.size (by simp)).trans (congrArg (pure : Int × Int × Int → Sem (Int × Int × Int)) (headBounds hc))
  unfold setItem
  refine wpAny_holding (wpAny_bind (wpAny_sequenceKey lp.typeIs (by decide) ?_))
  refine wpAny_bind (wpAny_callSpecial?_slot (name := "__setitem__") lp.typeIs slot_list_setitem (wpAny_call_entry slot_list_setitem lp.typeIs entry_list_setitem ?_ (args_list_setitem _ _ _)))
  show wpAny _ _ (Builtin.List.listSubscript? (.ref sl) >>= _) _ _ s
  unfold Builtin.List.listSubscript?
  refine wpAny_bind (wpAny_bind (wpAny_specialOf ts slice_no_index ?_))
  simp only [Option.isNone_none, if_true]
  refine wpAny_pure ?_
  show wpAny _ _ (typeOf (.ref sl) >>= _) _ _ s
  refine wpAny_bind (wpAny_typeOf ts ?_)
  rw [if_neg (by decide), listSliceParts_eq]
  refine wpAny_bind (wpAny_bind (wpAny_field ho hod (x := .none) rfl (wpAny_bind (wpAny_listPart (k := none) .none ?_))))
  rw [if_neg (show ¬ ((rawPart none == rawInt 0) = true) from Bool.false_ne_true)]
  refine wpAny_bind (wpAny_field ho hod (x := .none) rfl (wpAny_bind (wpAny_listPart (k := none) .none (wpAny_bind (wpAny_field ho hod (x := vu) rfl (wpAny_bind (wpAny_listPart pu (wpAny_pure ?_))))))))
  dsimp only
  rw [if_neg (by rw [ns]; exact Bool.false_ne_true)]
  refine wpAny_bind (m := Builtin.List.listAllItems (.ref b) _) ?_
  unfold Builtin.List.listAllItems
  refine wpAny_bind (wpAny_typeOf lb.typeIs ?_)
  rw [if_pos (by decide)]
  unfold Builtin.List.listItems
  refine wpAny_bind (wpAny_seqItems eb rfl (wpAny_pure (wpAny_bind (wpAny_bind (wpAny_seqItems ep rfl (wpAny_pure (wpAny_bind (wpAny_of_eq bd ?_))))))))
  show wpAny _ _ (if ((1 : Int) == 1) = true then _ else _) _ _ s
  rw [if_pos (by decide)]
  refine wpAny_bind (wpAny_rule ?_)
  simp only [notLongL hz, Bool.false_eq_true, if_false]
  first | refine wpAny_bind (wpAny_pure ?_) | skip
  show wpAny _ _ (updateSeq p (fun xs => xs.extract 0 0 ++ new ++ xs.extract (max (0 : Int) (c : Int)).toNat xs.size) >>= _) _ _ s
  rw [mx]
  refine wpAny_bind (wpAny_updateSeq (hz := Nat.le_trans (Nat.le_add_right _ _) hz) (_hz' := big) ep rfl (wpAny_bind (wpAny_letGo ?_)))
  first | exact wpAny_bind (wpAny_pure (wpAny_pure ⟨.none, rfl, wpAny_pure h⟩)) | exact wpAny_pure ⟨.none, rfl, wpAny_pure h⟩
end
def gHead (to : TE) (tl th : TO) : TG := fun v σ H Q => to σ H fun o H1 => tl σ H1 fun l H2 => th σ H2 fun u H3 => ∃ (p b : Addr) (xs ys : List V) (c : Nat), l = none ∧ o = .ref p ∧ v = .ref b ∧ u = some (c : Int) ∧ p ≠ b ∧ H3 p = some (.lst xs) ∧ H3 b = some (.lst ys) ∧ c ≤ xs.length ∧
  xs.length + ys.length ≤ sizeLine ∧ Q σ (upd H3 p (.lst (ys ++ xs.drop c)))
theorem pg_head {X : Cx} {o : Expr} {hi : Option Expr} {to : TE} {tl th : TO} {p2 pos : Pos} (ho : PE X o to) (hl : PO X none tl) (hh : PO X hi th) : PG X (.Subscript o (.Slice none hi none p2) pos) (gHead to tl th) := by
  refine ⟨fun pins s σ H v u Q I r h => ?_⟩
  show wpAny _ _ (do
      let ov ← holding [u] (eval o X.env)
      let iv ← holding [u, ov] (eval (.Slice none hi none p2) X.env)
      standAt pos
      holding [u, ov, iv] (setItem ov iv u)
      release [iv, u, ov] []) _ _ _
  refine wpAny_bind (wpAny_holding (thn (ho.run pins s σ H _ I h) fun ov s1 ⟨x, H1, I1, r1, q1⟩ => ?_))
  refine wpAny_bind (wpAny_holding (wpAny_Slice (thn (hl.run pins s1 σ H1 _ I1 q1) fun vl s2 ⟨l, H2, I2, pl, q2⟩ => thn (hh.run pins s2 σ H2 _ I2 q2) fun vu s3 ⟨w, H3, I3, pu, q3⟩ => ?_)))
  rw [evalPart_none]
  refine wpAny_pure ?_
  obtain ⟨p, b, xs, ys, c, rfl, rfl, rfl, rfl, hne, hp, hb, hc, hz, q⟩ := q3
  cases pl
  cases (show ov = Value.ref p from r1)
  cases (show u = Value.ref b from r)
  have I4 : Inv X pins σ H3 { s3 with heap := s3.heap.push { cls := .type "slice", data := .fields #[.none, vu, .none] } } := I3.kept (t' := s3.toks) fun b ob q => Heap.get?_push_of_some _ q
  refine wpAny_bind (wpAny_standAt (wpAny_bind (wpAny_holding ?_)))
  obtain ⟨z, its, n, rv, hlx, e⟩ := I4.lstM hp
  obtain ⟨z2, its2, n2, rv2, hlx2, e2⟩ := I4.lstM hb
  refine setHead (c := c) e e2 hne (Heap.IsSliceOf.new ..) pu (by rw [List.size_toArray]; omega) (by rw [List.size_toArray, List.size_toArray]; omega) (wpAny_release ⟨σ, upd H3 p (.lst (ys ++ xs.drop c)), ?_, q⟩)
  refine I4.lset (its' := its2 ++ its.drop c) (t' := s3.toks) hp e ?_ (Vals.append rv2 (rv.drop _)) ?_
  · have := splice_eq its its2 0 c
    rw [List.take_zero, List.nil_append] at this
    exact this
  · rw [List.length_append, List.length_drop]
    omega
/-- xs[:c] = ys -/
def headP (s : Sl) (ds : List PyData) (o : Option Int) : Rs (List PyData) := match s, o with
  | .ol es, some c => if 0 ≤ c ∧ c ≤ ds.length ∧ ds.length + es.length ≤ lim then .ok (es ++ ds.drop c.toNat) else .stuck
  | _, _ => .stuck
def fHead (i : Nat) (Fv : Env → Rs Sl) (Fh : Env → Rs (Option Int)) : Env → Rs Out := fun ρ => Fv ρ >>= fun s => ownL ρ[i]? >>= fun ds => Fh ρ >>= fun o => headP s ds o >>= fun ds' => .ok (.nx (ρ.set i (.ol ds')))
section
variable {ca : Nat → Addr} {X : Cx} {E : XK}
theorem jp_head (i : Nat) {v : Expr} {hi : Option Expr} {x : Str} {p apos p2 pos : Pos} {tv : TE} {th : TO} {Fv : Env → Rs Sl} {Fh : Env → Rs (Option Int)} (hv : JV ca X E v tv Fv) (hx : PE X (.Name x p) (tVar i)) (hh : JO ca X E hi th Fh)
    (hs : swapsWithSole [.Subscript (.Name x p) (.Slice none hi none p2) apos] v pos.line X.env = pure false := by rfl) (hw : swappedStores [.Subscript (.Name x p) (.Slice none hi none p2) apos] v X.env = pure none := by rfl) :
    JP ca X E (.Assign [.Subscript (.Name x p) (.Slice none hi none p2) apos] v pos) (tAsg tv (gHead (tVar i) tNoPart th)) (fHead i Fv Fh) := by
  refine ⟨ps_asg hv.pe (pg_head hx po_none hh.po) hs hw, fun G0 H0 G H ρ σ rep en hns D nx rt er => ?_⟩
  refine hv.sem.use rep hns (fun x e G' H' cl dd n => er x e G' H' cl dd (en.nx.trans n)) fun s es e1 G1 H1 u n1 r1 q1 h1 er1 => ?_
  have nx0 : ∀ ρ', (ownL ρ[i]? >>= fun ds => Fh ρ >>= fun o => headP s ds o >>= fun ds' => (.ok (.nx (ρ.set i (.ol ds'))) : Rs Out)) = .ok (.nx ρ') → ∀ G' H' σ', Rep ⟨X.K, ca⟩ G' H' ρ' σ' → Ent G0 H0 G' H' ρ' σ' → D.nx σ' H' := fun ρ' e => nx ρ' (e1.trans e)
  replace nx := nx0
  obtain ⟨ds, hs⟩ := ownL_ok h1
  have e0 : (ownL ρ[i]? >>= fun ds => Fh ρ >>= fun o => headP s ds o >>= fun ds' => (.ok (.nx (ρ.set i (.ol ds'))) : Rs Out)) = (Fh ρ >>= fun o => headP s ds o >>= fun ds' => (.ok (.nx (ρ.set i (.ol ds'))) : Rs Out)) := by rw [hs]; rfl
  rw [e0] at h1 er1 nx
  obtain ⟨o, e2, pp, xs, rfl, gp, hp, qq⟩ := r1.sl i _ hs
  refine ⟨.ref pp, e2, ?_⟩
  show th σ H1 _
  refine hh.sem.use r1 h1 er1 fun kd ek e3 G2 H2 w n2 r2 q2 h2 er2 => ?_
  rw [e3] at nx
  obtain ⟨o', e4, p', xs', z, gp2, hp2, qq2⟩ := r2.sl i _ hs
  rw [e2] at e4
  cases e4
  cases z
  unfold headP at h2 nx
  split at h2
  · rename_i es' c
    split at h2
    · rename_i hc
      obtain ⟨b, ys, rfl, hb0, gb, hb, qb⟩ := q1
      have hl := DpAll.length qq2
      have hl2 := DpAll.length qb
      cases (show w = some c from q2)
      have hne : pp ≠ b := fun z => by
        have r0 := rep.sl i _ hs
        obtain ⟨o0, f1, p0, x0, f2, f3, f4, f5⟩ := r0
        rw [e2] at f1
        cases f1
        cases f2
        rw [z, hb0] at f4
        cases f4
      refine ⟨pp, b, xs', ys, c.toNat, rfl, rfl, rfl, by rw [show ((c.toNat : Nat) : Int) = c by omega], hne, hp2, n2.h _ _ hb, by omega, lim_le (by rw [hl, hl2]; exact hc.2.2), ?_⟩
      obtain ⟨r3, n3⟩ := mut_ol r2 ((en.go n1).go n2) hs e2 gp2 hp2 (DpAll.append (DpAll.ex n2.g qb) (DpAll.drop c.toNat qq2))
      exact nx _ (by simp only [hc]; rfl) G2 _ σ r3 n3
    · exact absurd rfl h2
  · exact absurd rfl h2
end
theorem headP_ok {es ds : List PyData} {c : Nat} (h : c ≤ ds.length) (hl : ds.length + es.length ≤ lim) : headP (.ol es) ds (some (c : Int)) = .ok (es ++ ds.drop c) := if_pos ⟨by omega, by omega, hl⟩
@[simp] theorem z_head (i : Nat) (Fv : Env → Rs Sl) (Fh : Env → Rs (Option Int)) (ρ : Env) : fHead i Fv Fh ρ = (Fv ρ >>= fun s => ownL ρ[i]? >>= fun ds => Fh ρ >>= fun o => headP s ds o >>= fun ds' => .ok (.nx (ρ.set i (.ol ds')))) := (rfl)
end PF

namespace PF
open PySem L2

/-! ### recursion: a def's promise by fuel; without fuel it promises nothing -/
theorem callee_stuck {P : Program} {w : World} {K : PySem.W.Frag} {mg : Str → Option Value} {base : Heap} {ca : Nat → Addr} {x qual y : Str} {st : Stmt} {f : Addr} {fd : FuncData} {ps : List Str} {np : Nat} (k : Nat) (Fu : Fun K y qual st f fd)
    (hm : mg x = some (.ref f)) (hb : Binds K fd ps []) : Callee P w K mg base ca x k (fun _ => .stuck) np :=
  ⟨⟨f, fd, ps, ⟨fun vs H Q E h => by
      obtain ⟨_, _, _, _, _, h, _⟩ := h
      exact absurd rfl h, fun A outer s H args us vs Q E _ _ _ _ h => by
      obtain ⟨_, _, _, _, _, h, _⟩ := h
      exact absurd rfl h⟩, hm, Fu.kp, hb⟩, fun ds h => absurd rfl h⟩
/-! ### walked: a list or a tuple -/
def iMix (K : PySem.W.Frag) (tl : TE) : TI := fun σ H R => tl σ H fun x H1 => ∃ a, x = .ref a ∧ (((∃ xs, SqL K H1 a xs) ∧ R (Itl K a) H1) ∨ ((∃ xs, SqT K H1 a xs) ∧ R (Itt K a) H1))
theorem pi_mix {X : Cx} {tg l : Expr} {tl : TE} (hl : PE X l tl) : PI X tg l (iMix X.K tl) := by
  refine ⟨fun pins s σ H R I h => ?_⟩
  refine thn (hl.run pins s σ H _ I h) fun v s1 ⟨x, H1, I1, r1, q1⟩ => ?_
  obtain ⟨a, e, q1⟩ := q1
  subst e
  cases r1
  have own : ∀ b ∈ [s1.heap.objs.size], b = s1.heap.objs.size := fun b hb => by simpa using hb
  rcases q1 with ⟨⟨xs, hq⟩, q⟩ | ⟨⟨xs, hq⟩, q⟩
  · obtain ⟨its, rv, p, hz⟩ := I1.list hq
    refine wpAny_pyIter_list p.isList ?_
    refine ⟨s1.heap.objs.size, [s1.heap.objs.size], _, _, H1, rfl, I1.kept (t' := s1.toks) fun b o e => Heap.get?_push_of_some _ e, turn_list a _, ⟨_, Heap.get?_push_size _ rfl, rfl, rfl⟩, fun b hb => ?_, q⟩
    have e := own b hb
    subst e
    exact I1.fpOk (Nat.le_refl _) (I1.hok.fresh (Nat.le_refl _))
  · obtain ⟨its, rv, p, hz⟩ := I1.tuple hq
    refine wpAny_pyIter_tuple (show s1.heap.IsTuple a its.toArray from p) ?_
    refine ⟨s1.heap.objs.size, [s1.heap.objs.size], _, _, H1, rfl, I1.kept (t' := s1.toks) fun b o e => Heap.get?_push_of_some _ e, turn_tuple a _, ⟨_, Heap.get?_push_size _ rfl, rfl, rfl⟩, fun b hb => ?_, q⟩
    have e := own b hb
    subst e
    exact I1.fpOk (Nat.le_refl _) (I1.hok.fresh (Nat.le_refl _))
def itemsM : PyData → Rs (List PyData)
  | .list ds => .ok ds
  | .tuple ds => .ok ds
  | _ => .stuck
@[simp] theorem z_itemsM_l (ds : List PyData) : itemsM (.list ds) = .ok ds := (rfl)
@[simp] theorem z_itemsM_t (ds : List PyData) : itemsM (.tuple ds) = .ok ds := (rfl)
theorem ji_mix {ca : Nat → Addr} {X : Cx} {E : XK} {e tg : Expr} {te : TE} {F : Env → Rs PyData} {b : Bool} (h : JS ca X E e te F) : JI ca X E b tg e (iMix X.K te) (fIt itemsM F) :=
  ⟨pi_mix h.pe, fun G H ρ σ rep hns R ok er => h.sem.use rep hns er fun d ed e1 G' H' v n r q hk _ => by
    cases d with
    | list ds =>
      obtain ⟨a, xs, rfl, hx, ax⟩ := Dp.list_v q
      exact ⟨a, rfl, .inl ⟨⟨xs, Ex.sql n.gh hx⟩, ok ds e1 G' H' _ n (walkd_same _ _ (fun G2 H2 z1 z2 _ => Ex.sql z2 (Ex.sql z1 hx)) ax walk_list fun i H x H' y => y)⟩⟩
    | tuple ds =>
      obtain ⟨a, xs, rfl, hx, ax⟩ := Dp.tuple_v q
      exact ⟨a, rfl, .inr ⟨⟨xs, Ex.sqt n.gh hx⟩, ok ds e1 G' H' _ n (walkd_same _ _ (fun G2 H2 z1 z2 _ => Ex.sqt z2 (Ex.sqt z1 hx)) ax walk_tup fun i H x H' y => y)⟩⟩
    | none => exact absurd rfl hk
    | bool _ => exact absurd rfl hk
    | int _ => exact absurd rfl hk
    | _ => exact absurd rfl hk⟩
end PF

namespace PF
open PySem L2
/-! ### the text by places -/
def topS (i : Nat) : Stmt := PySem.Challenge.pw_wallspace_k51_points_off_walls.main.body.getD i (.Pass ⟨0, 0, 0, 0⟩)
structure Blt (mg : Str → Option Value) : Prop where
  b_abs : mg "abs" = none
  b_any : mg "any" = none
  b_bool : mg "bool" = none
  b_int : mg "int" = none
  b_isinstance : mg "isinstance" = none
  b_len : mg "len" = none
  b_list : mg "list" = none
  b_min : mg "min" = none
  b_range : mg "range" = none
  b_tuple : mg "tuple" = none
  b_zip : mg "zip" = none
abbrev s_points_by_rests : Stmt := topS 1
theorem sc_points_by_rests : FnScope ["ways", "prime", "found", "k", "longer", "point", "number"] ["ways", "prime"] (defScope s_points_by_rests) := ⟨rfl, rfl, rfl, by decide +kernel, rfl, by decide +kernel, by decide +kernel⟩
abbrev s_is_off : Stmt := topS 2
theorem sc_is_off : FnScope ["walls", "point", "prime", "one", "total", "number", "part"] ["walls", "point", "prime"] (defScope s_is_off) := ⟨rfl, rfl, rfl, by decide +kernel, rfl, by decide +kernel, by decide +kernel⟩
abbrev s_off_all : Stmt := topS 3
theorem sc_off_all : FnScope ["ways", "walls", "prime", "point"] ["ways", "walls", "prime"] (defScope s_off_all) := ⟨rfl, rfl, rfl, by decide +kernel, rfl, by decide +kernel, by decide +kernel⟩
abbrev s__law_cell_at : Stmt := topS 5
theorem sc__law_cell_at : FnScope ["_law_script", "_law_k"] ["_law_script", "_law_k"] (defScope s__law_cell_at) := ⟨rfl, rfl, rfl, by decide +kernel, rfl, by decide +kernel, by decide +kernel⟩
abbrev s__law_whole : Stmt := topS 6
theorem sc__law_whole : FnScope ["_law_found"] ["_law_found"] (defScope s__law_whole) := ⟨rfl, rfl, rfl, by decide +kernel, rfl, by decide +kernel, by decide +kernel⟩
abbrev s__law_block : Stmt := topS 7
theorem sc__law_block : FnScope ["_law_script", "_law_k", "_law_cell", "_law_j"] ["_law_script", "_law_k"] (defScope s__law_block) := ⟨rfl, rfl, rfl, by decide +kernel, rfl, by decide +kernel, by decide +kernel⟩
abbrev s__law_mixed : Stmt := topS 8
theorem sc__law_mixed : FnScope ["_law_script", "_law_k", "_law_cell", "_law_number"] ["_law_script", "_law_k"] (defScope s__law_mixed) := ⟨rfl, rfl, rfl, by decide +kernel, rfl, by decide +kernel, by decide +kernel⟩
abbrev s__law_divisor : Stmt := topS 9
theorem sc__law_divisor : FnScope ["_law_one", "_law_other"] ["_law_one", "_law_other"] (defScope s__law_divisor) := ⟨rfl, rfl, rfl, by decide +kernel, rfl, by decide +kernel, by decide +kernel⟩
abbrev s__law_digits : Stmt := topS 10
theorem sc__law_digits : FnScope ["_law_script", "_law_start", "_law_many", "_law_base", "_law_found", "_law_number", "_law_k"] ["_law_script", "_law_start", "_law_many", "_law_base"] (defScope s__law_digits) := ⟨rfl, rfl, rfl, by decide +kernel, rfl, by decide +kernel, by decide +kernel⟩
abbrev s__law_plain : Stmt := topS 11
theorem sc__law_plain : FnScope ["_law_row", "_law_by", "_law_lead", "_law_number"] ["_law_row"] (defScope s__law_plain) := ⟨rfl, rfl, rfl, by decide +kernel, rfl, by decide +kernel, by decide +kernel⟩
abbrev s__law_fences : Stmt := topS 12
theorem sc__law_fences : FnScope ["_law_script", "_law_start", "_law_ways", "_law_many", "_law_digits_here", "_law_found", "_law_k", "_law_row", "_law_digit", "_law_one"] ["_law_script", "_law_start", "_law_ways", "_law_many"] (defScope s__law_fences) := ⟨rfl, rfl, rfl, by decide +kernel, rfl, by decide +kernel, by decide +kernel⟩
abbrev s__law_count : Stmt := topS 13
theorem sc__law_count : FnScope ["_law_shuts", "_law_prime", "_law_sums", "_law_ways", "_law_total", "_law_many", "_law_number", "_law_later", "_law_one"] ["_law_shuts", "_law_prime", "_law_sums", "_law_ways"] (defScope s__law_count) := ⟨rfl, rfl, rfl, by decide +kernel, rfl, by decide +kernel, by decide +kernel⟩
abbrev s_law : Stmt := topS 14
theorem sc_law : FnScope ["_law_script", "_law_ways", "_law_shuts", "_law_more", "_law_one", "_law_wide", "_law_prime", "_law_handed", "_law_found", "_law_due"] ["_law_script"] (defScope s_law) := ⟨rfl, rfl, rfl, by decide +kernel, rfl, by decide +kernel, by decide +kernel⟩
/-! ### what each def computes -/
noncomputable def p1_points_by_rests : Env → Rs Out :=
  (fSet 4 (fOp addD (fVarB 4) (fSh (fLcS (fIt rng1 (fCons (fVarS 1) fNil)) (tgN 6) fYes (fSh (fOp addD (fVarB 5) (fUn tupD (fCons (fVarS 6) fNil)))) [6]))))
noncomputable def p2_points_by_rests : Env → Rs Out :=
  (fSeq (fSet 4 (fUn lstD fNil))
   (fSeq (fFz 2 (fFor (fIt itemsL (fVarS 2)) (tgN 5)
   p1_points_by_rests))
   (fFz 4 (fSet 2 (fV (fVarS 4))))))
noncomputable def b_points_by_rests : Env → Rs Out :=
  (fSeq (fSet 2 (fUn lstD (fCons (fUn tupD fNil) fNil)))
  (fSeq (fFor (fIt rng1 (fCons (fVarS 0) fNil)) (tgN 3)
  p2_points_by_rests)
  (fRetVar 2)))
noncomputable def f_points_by_rests : List PyData → Rs Sl := fnOf 2 7 b_points_by_rests
noncomputable def p1_is_off : Env → Rs Out :=
  (fSet 4 (fOp addD (fVarB 4) (fOp mulD (fVarB 5) (fVarB 6))))
noncomputable def p2_is_off : Env → Rs Out :=
  (fSeq (fSet 4 (fV (fOp subD (fC (.int 0)) (fOp ixD (fVarB 3) (fUn negD (fC (.int 1)))))))
   (fSeq (fFor (fIt zipM (fCons (fSh (fSl (fVarB 3) fNone (fSome (fUn negD (fC (.int 1)))))) (fCons (fVarS 1) fNil))) (tgT 2 (tgCons (tgN 5) (tgCons (tgN 6) tgNil)))
   p1_is_off)
   (fIf (fB (fOp eqD (fOp modD (fVarB 4) (fVarB 2)) (fC (.int 0))))
   (fRet (fV (fC (.bool false))))
   fSkip)))
noncomputable def b_is_off : Env → Rs Out :=
  (fSeq (fFor (fIt itemsL (fVarS 0)) (tgN 3)
  p2_is_off)
  (fRet (fV (fC (.bool true)))))
noncomputable def f_is_off : List PyData → Rs Sl := fnOf 3 7 b_is_off
noncomputable def b_off_all : Env → Rs Out :=
  (fRet (fV (fUn lenD (fSh (fLcS (fIt itemsL (fSh (fCall f_points_by_rests (fCons (fVarS 0) (fCons (fVarS 2) fNil))))) (tgN 3) (fB (fSh (fCall f_is_off (fCons (fVarS 1) (fCons (fVarS 3) (fCons (fVarS 2) fNil)))))) (fVarS 3) [3])))))
noncomputable def f_off_all : List PyData → Rs Sl := fnOf 3 4 b_off_all
noncomputable def b__law_cell_at : Env → Rs Out :=
  (fSeq (fIf (fB (fOp ltD (fVarB 1) (fUn lenD (fVarB 0))))
  (fRet (fV (fOp ixD (fVarB 0) (fVarB 1))))
  fSkip)
  (fRet (fV (fC (.int 0)))))
noncomputable def f__law_cell_at : List PyData → Rs Sl := fnOf 2 2 b__law_cell_at
noncomputable def b__law_whole : Env → Rs Out :=
  (fRet (fV (fAndV (fUn (isiD "int") (fVarB 0)) (fNotV (fUn (isiD "bool") (fVarB 0))))))
noncomputable def f__law_whole : List PyData → Rs Sl := fnOf 1 1 b__law_whole
noncomputable def p1__law_block : Env → Rs Out :=
  (fSet 2 (fV (fOp divD (fVarB 2) (fC (.int 2147483587)))))
noncomputable def q2__law_block : Env → Rs Out :=
  (fSeq (fFor (fIt rng1 (fCons (fOp modD (fVarB 1) (fC (.int 8))) fNil)) (tgN 3)
  p1__law_block)
  (fRetVar 2))
noncomputable def b__law_block : Env → Rs Out :=
  (fSeq (fSet 2 (fV (fC (.int 0))))
  (fSeq (fIf (fB (fOp ltD (fSh (fOp addD (fC (.int 1)) (fOp modD (fOp divD (fVarB 1) (fC (.int 8))) (fC (.int 62))))) (fUn lenD (fVarB 0))))
  (fSet 2 (fV (fOp divD (fOp ixD (fVarB 0) (fSh (fOp addD (fC (.int 1)) (fOp modD (fOp divD (fVarB 1) (fC (.int 8))) (fC (.int 62)))))) (fOp powD (fC (.int 10)) (fC (.int 64))))))
  fSkip)
  q2__law_block))
noncomputable def f__law_block : List PyData → Rs Sl := fnOf 2 4 b__law_block
noncomputable def q4__law_mixed : Env → Rs Out :=
  (fSeq (fSet 3 (fOp addD (fOp modD (fVarB 2) (fOp powD (fC (.int 10)) (fC (.int 18)))) (fOp mulD (fC (.int 48271)) (fSh (fOp addD (fVarB 1) (fC (.int 1)))))))
  (fSeq (fSet 3 (fOp addD (fOp modD (fOp mulD (fVarB 3) (fVarB 3)) (fC (.int 2147483629))) (fOp mulD (fC (.int 69621)) (fVarB 1))))
  (fRet (fV (fOp modD (fOp mulD (fVarB 3) (fVarB 3)) (fC (.int 2147483587)))))))
noncomputable def q2__law_mixed : Env → Rs Out :=
  (fSeq (fIf (fAnd (fB (fOp eqD (fOp modD (fOp divD (fVarB 2) (fOp powD (fC (.int 10)) (fC (.int 6)))) (fC (.int 2))) (fC (.int 1)))) (fB (fOp neD (fSh (fCall f__law_block (fCons (fVarS 0) (fCons (fVarS 1) fNil)))) (fC (.int 0)))))
  (fRet (fV (fOp modD (fSh (fCall f__law_block (fCons (fVarS 0) (fCons (fVarS 1) fNil)))) (fC (.int 2147483587)))))
  fSkip)
  (fSeq (fIf (fB (fOp gtD (fUn lenD (fVarB 0)) (fC (.int 0))))
  (fSet 2 (fV (fOp ixD (fVarB 0) (fOp modD (fVarB 1) (fOp min2D (fC (.int 63)) (fUn lenD (fVarB 0)))))))
  fSkip)
  q4__law_mixed))
noncomputable def b__law_mixed : Env → Rs Out :=
  (fSeq (fSet 2 (fV (fC (.int 0))))
  (fSeq (fIf (fB (fOp gtD (fUn lenD (fVarB 0)) (fC (.int 0))))
  (fSet 2 (fV (fOp ixD (fVarB 0) (fC (.int 0)))))
  fSkip)
  q2__law_mixed))
noncomputable def f__law_mixed : List PyData → Rs Sl := fnOf 2 4 b__law_mixed
noncomputable def p1__law_divisor : Env → Rs Out :=
  (fFz 1 (fPar 0 1 (fCons (fVarS 1) (fCons (fOp modD (fVarB 0) (fVarB 1)) fNil))))
noncomputable def p2__law_divisor : Env → Rs Bool :=
  (fB (fOp gtD (fVarB 1) (fC (.int 0))))
noncomputable def b__law_divisor : Env → Rs Out :=
  (fSeq (fSet 0 (fV (fUn absD (fVarB 0))))
  (fSeq (fSet 1 (fV (fUn absD (fVarB 1))))
  (fSeq (whL p2__law_divisor
  p1__law_divisor)
  (fRetVar 0))))
noncomputable def f__law_divisor : List PyData → Rs Sl := fnOf 2 2 b__law_divisor
noncomputable def p1__law_digits : Env → Rs Out :=
  (fIf (fB (fOp eqD (fOp modD (fSh (fCall f__law_cell_at (fCons (fVarS 0) (fCons (fC (.int 0)) fNil)))) (fC (.int 2))) (fC (.int 1))))
   (fSeq (fApp 4 (fOp modD (fVarB 5) (fVarB 3)))
    (fSet 5 (fV (fOp divD (fVarB 5) (fVarB 3)))))
   (fApp 4 (fOp modD (fSh (fCall f__law_mixed (fCons (fVarS 0) (fCons (fSh (fOp addD (fVarB 1) (fVarB 6))) fNil)))) (fVarB 3))))
noncomputable def b__law_digits : Env → Rs Out :=
  (fSeq (fSet 4 (fUn lstD fNil))
  (fSeq (fSet 5 (fCall f__law_cell_at (fCons (fVarS 0) (fCons (fC (.int 1)) fNil))))
  (fSeq (fFor (fIt rng1 (fCons (fVarS 2) fNil)) (tgN 6)
  p1__law_digits)
  (fRetVar 4))))
noncomputable def f__law_digits : List PyData → Rs Sl := fnOf 4 7 b__law_digits
noncomputable def p1__law_plain : Env → Rs Out :=
  (fSeq (fFz 1 (fSet 1 (fCall f__law_divisor (fCons (fVarS 1) (fCons (fVarS 3) fNil)))))
   (fIf (fB (fOp eqD (fVarB 2) (fC (.int 0))))
   (fSet 2 (fV (fVarS 3)))
   fSkip))
noncomputable def b__law_plain : Env → Rs Out :=
  (fSeq (fSet 1 (fV (fC (.int 0))))
  (fSeq (fSet 2 (fV (fC (.int 0))))
  (fSeq (fFor (fIt itemsM (fVarS 0)) (tgN 3)
  p1__law_plain)
  (fSeq (fIf (fB (fOp ltD (fVarB 2) (fC (.int 0))))
  (fSet 1 (fV (fOp subD (fC (.int 0)) (fVarB 1))))
  fSkip)
  (fRet (fV (fUn tupleD (fSh (fLcS (fIt itemsM (fVarS 0)) (tgN 3) fYes (fOp divD (fVarB 3) (fVarB 1)) [3])))))))))
noncomputable def f__law_plain : List PyData → Rs Sl := fnOf 1 4 b__law_plain
noncomputable def p1__law_fences : Env → Rs Out :=
  (fSeq (fSet 7 (fLcS (fIt itemsL (fSh (fSl (fVarB 4) (fSome (fOp mulD (fSh (fOp addD (fVarB 2) (fC (.int 1)))) (fVarB 6))) (fSome (fOp mulD (fSh (fOp addD (fVarB 2) (fC (.int 1)))) (fSh (fOp addD (fVarB 6) (fC (.int 1))))))))) (tgN 8) fYes (fOp subD (fVarB 8) (fC (.int 3))) [8]))
   (fIf (fB (fUn anyD (fSh (fSl (fVarB 7) fNone (fSome (fUn negD (fC (.int 1))))))))
   (fSeq (fFz 7 (fSet 9 (fCall f__law_plain (fCons (fVarS 7) fNil))))
    (fIf (fB (fOp ninD (fVarB 9) (fVarB 5)))
    (fApp 5 (fVarS 9))
    fSkip))
   fSkip))
noncomputable def b__law_fences : Env → Rs Out :=
  (fSeq (fSet 4 (fCall f__law_digits (fCons (fVarS 0) (fCons (fVarS 1) (fCons (fOp mulD (fSh (fOp addD (fVarB 2) (fC (.int 1)))) (fVarB 3)) (fCons (fC (.int 7)) fNil))))))
  (fSeq (fSet 5 (fUn lstD fNil))
  (fSeq (fFor (fIt rng1 (fCons (fVarS 3) fNil)) (tgN 6)
  p1__law_fences)
  (fRetVar 5))))
noncomputable def f__law_fences : List PyData → Rs Sl := fnOf 4 10 b__law_fences
noncomputable def p1__law_count (rec : List PyData → Rs Sl) : Env → Rs Out :=
  (fSeq (fSet 7 (fLcS (fIt zipM (fCons (fVarS 2) (fCons (fVarS 0) fNil))) (tgT 2 (tgCons (tgN 4) (tgCons (tgN 8) tgNil))) fYes (fSh (fOp addD (fVarB 4) (fOp mulD (fVarB 6) (fOp ixD (fVarB 8) (fOp subD (fVarB 3) (fC (.int 1))))))) [4, 8]))
   (fFz 7 (fSet 5 (fOp addD (fVarB 5) (fSh (fCall rec (fCons (fVarS 0) (fCons (fVarS 1) (fCons (fVarS 7) (fCons (fOp subD (fVarB 3) (fC (.int 1))) fNil))))))))))
noncomputable def b__law_count (rec : List PyData → Rs Sl) : Env → Rs Out :=
  (fSeq (fIf (fB (fOp eqD (fVarB 3) (fC (.int 0))))
  (fRet (fV (fUn int1D (fOp eqD (fSh (fLcS (fIt itemsL (fVarB 2)) (tgN 4) (fB (fOp eqD (fOp modD (fVarB 4) (fVarB 1)) (fC (.int 0)))) (fVarS 4) [4])) (fSh (fUn lstD fNil))))))
  fSkip)
  (fSeq (fSet 5 (fV (fC (.int 0))))
  (fSeq (fFor (fIt rng1 (fCons (fVarS 1) fNil)) (tgN 6)
  (p1__law_count rec))
  (fRetVar 5))))
noncomputable def f__law_count : Nat → List PyData → Rs Sl
  | 0 => fun _ => .stuck
  | n + 1 => fnOf 4 9 (b__law_count (f__law_count n))
noncomputable def p1_law : Env → Rs Out :=
  (fSeq (fSet 5 (fOp addD (fSh (fSl (fVarB 4) fNone (fSome (fUn negD (fC (.int 1)))))) (fUn tupD (fCons (fSh (fOp addD (fOp ixD (fVarB 4) (fUn negD (fC (.int 1)))) (fOp modD (fSh (fCall f__law_cell_at (fCons (fVarS 0) (fCons (fC (.int 2)) fNil)))) (fOp powD (fC (.int 10)) (fC (.int 30)))))) fNil))))
    (fIf (fB (fOp ninD (fSh (fCall f__law_plain (fCons (fVarS 5) fNil))) (fVarB 3)))
    (fApp 3 (fSh (fCall f__law_plain (fCons (fVarS 5) fNil))))
    fSkip))
noncomputable def q3_law : Env → Rs Out :=
  (fSeq (fSet 6 (fV (fOp ixD (fSh (fUn lstD (fCons (fC (.int 2)) (fCons (fC (.int 3)) (fCons (fC (.int 5)) (fCons (fC (.int 7)) (fCons (fC (.int 11)) (fCons (fC (.int 13)) fNil)))))))) (fOp modD (fSh (fCall f__law_mixed (fCons (fVarS 0) (fCons (fC (.int 2)) fNil)))) (fOp ixD (fSh (fUn lstD (fCons (fC (.int 6)) (fCons (fC (.int 6)) (fCons (fC (.int 6)) (fCons (fC (.int 4)) fNil)))))) (fVarB 1))))))
  (fSeq (fSet 7 (fUn listD (fVarB 2)))
  (fSeq (fFz 7 (fFz 6 (fSet 8 (fCall f_off_all (fCons (fVarS 1) (fCons (fVarS 7) (fCons (fVarS 6) fNil)))))))
  (fSeq (fFz 6 (fFz 2 (fSet 9 (fCall (f__law_count 4) (fCons (fVarS 2) (fCons (fVarS 6) (fCons (fSh (fLcS (fIt itemsL (fVarB 2)) (tgN 4) fYes (fOp subD (fC (.int 0)) (fOp ixD (fVarB 4) (fUn negD (fC (.int 1))))) [4])) (fCons (fVarS 1) fNil))))))))
  (fRet (fV (fAndV (fSh (fCall f__law_whole (fCons (fVarS 8) fNil))) (fAndV (fOp eqD (fVarB 8) (fVarB 9)) (fOp eqD (fVarB 7) (fVarB 2))))))))))
noncomputable def q2_law : Env → Rs Out :=
  (fSeq (fIf (fB (fOp eqD (fOp modD (fOp divD (fSh (fCall f__law_cell_at (fCons (fVarS 0) (fCons (fC (.int 0)) fNil)))) (fC (.int 56))) (fC (.int 4))) (fC (.int 1))))
  (fSeq (fSet 3 (fUn lstD fNil))
   (fSeq (fFz 2 (fFor (fIt itemsL (fVarS 2)) (tgN 4)
   p1_law))
   (fFz 3 (fSet 2 (fV (fVarS 3))))))
  fSkip)
  q3_law)
noncomputable def b_law : Env → Rs Out :=
  (fSeq (fSet 1 (fV (fOp modD (fOp divD (fSh (fCall f__law_cell_at (fCons (fVarS 0) (fCons (fC (.int 0)) fNil)))) (fC (.int 2))) (fC (.int 4)))))
  (fSeq (fSet 2 (fCall f__law_fences (fCons (fVarS 0) (fCons (fC (.int 3)) (fCons (fVarS 1) (fCons (fOp modD (fOp divD (fSh (fCall f__law_cell_at (fCons (fVarS 0) (fCons (fC (.int 0)) fNil)))) (fC (.int 8))) (fC (.int 7))) fNil))))))
  q2_law))
noncomputable def f_law : List PyData → Rs Sl := fnOf 1 10 b_law
/-! ### each def keeps its promise -/
section
variable {P : Program} {w : World} {K : PySem.W.Frag} {mg : Str → Option Value} {base : Heap} {ca : Nat → Addr}
theorem ok_points_by_rests {f : Addr} {fd : FuncData} (T : Blt mg)  (F : Fun K "points_by_rests" "points_by_rests" s_points_by_rests f fd) : FnOk P w K mg base (L2.CX P w) 1 f fd ["ways", "prime"] (spF ⟨K, ca⟩ (fnOf 2 7 b_points_by_rests) 2) :=
  fn_ok (k := 0) F sc_points_by_rests b_points_by_rests fun cdv A outer s H E hr o => ⟨_,
  (jps_cons (jp_set (i := 2) (jv_lst (ja_cons (js_tup ja_nil) ja_nil)) o.nd rfl (by first | exact .inl rfl | exact .inr rfl))
  (jps_cons (jp_for (ji_range1 (ja_cons (js_var 0 (pv 0)) ja_nil) T.b_range) (jg_name (i := 3) o.nd rfl (by first | exact .inl rfl | exact .inr rfl))
  (jps_cons (jp_set (i := 4) (jv_lst ja_nil) o.nd rfl (by first | exact .inl rfl | exact .inr rfl))
   (jps_cons (jp_fzF 2 (jp_for (ji_list (js_var 2 (pv 2))) (jg_name (i := 5) o.nd rfl (by first | exact .inl rfl | exact .inr rfl))
   (jps_one (jp_set (i := 4) (jv_add (jb_var 4 (pv 4)) (jb_s (js_v (jv_lc (own := [("number", 6)]) o.calm o.nd (ji_range1 (ja_cons (js_var 1 (pv 1)) ja_nil) T.b_range) (blkOk_by (show blkC ["ways", "prime", "found", "k", "longer", "point", "number"] (defScope s_points_by_rests) _ _ = true by decide +kernel)) (fun _ _ _ _ _ => by exact (jg_name (i := 6) o.nd rfl (by first | exact .inl rfl | exact .inr rfl))) (fun _ _ _ _ _ => by exact jc_nil) (fun _ _ _ _ _ => by exact (js_v (jv_add (jb_var 5 (pv 5)) (jb_s (js_tup (ja_cons (js_var 6 (pv 6)) ja_nil)))))) (by decide) s H)))) o.nd rfl (by first | exact .inl rfl | exact .inr rfl))) o.pas o.calm))
   (jps_one (jp_fzF 4 (jp_set (i := 2) (jv_s (js_var 4 (pv 4))) o.nd rfl (by first | exact .inl rfl | exact .inr rfl)))))) o.pas o.calm)
  (jps_one (jp_retVar 2 (pv 2)))))⟩
theorem ok_is_off {f : Addr} {fd : FuncData} (T : Blt mg)  (F : Fun K "is_off" "is_off" s_is_off f fd) : FnOk P w K mg base (L2.CX P w) 1 f fd ["walls", "point", "prime"] (spF ⟨K, ca⟩ (fnOf 3 7 b_is_off) 3) :=
  fn_ok (k := 0) F sc_is_off b_is_off fun cdv A outer s H E hr o => ⟨_,
  (jps_cons (jp_for (ji_list (js_var 0 (pv 0))) (jg_name (i := 3) o.nd rfl (by first | exact .inl rfl | exact .inr rfl))
  (jps_cons (jp_set (i := 4) (jv_s (js_sub (jb_s js_int) (jb_s (js_ix (jb_var 3 (pv 3)) (jb_s (js_neg (jb_s js_int))))))) o.nd rfl (by first | exact .inl rfl | exact .inr rfl))
   (jps_cons (jp_for (ji_zipM (ja_cons (js_v (jv_slice (jb_var 3 (pv 3)) jo_none (jo_some (jb_s (js_neg (jb_s js_int)))))) (ja_cons (js_var 1 (pv 1)) ja_nil)) T.b_zip) (jg_tup (jgs_cons (jg_name (i := 5) o.nd rfl (by first | exact .inl rfl | exact .inr rfl)) (jgs_cons (jg_name (i := 6) o.nd rfl (by first | exact .inl rfl | exact .inr rfl)) jgs_nil)) o.calm)
   (jps_one (jp_set (i := 4) (jv_add (jb_var 4 (pv 4)) (jb_s (js_mul (jb_var 5 (pv 5)) (jb_var 6 (pv 6))))) o.nd rfl (by first | exact .inl rfl | exact .inr rfl))) o.pas o.calm)
   (jps_one (jp_if (jt_cmp (op_eqD (by exact o.u64)) opsem_eq (nomark _) (jb_s (js_mod (jb_var 4 (pv 4)) (jb_var 2 (pv 2)))) (jb_s js_int))
   (jps_one (jp_ret (jv_s js_bl)))
   jps_nil)))) o.pas o.calm)
  (jps_one (jp_ret (jv_s js_bl))))⟩
theorem ok_off_all {f : Addr} {fd : FuncData} (T : Blt mg) (C_points_by_rests : Callee P w K mg base ca "points_by_rests" 1 f_points_by_rests 2) (C_is_off : Callee P w K mg base ca "is_off" 1 f_is_off 3) (F : Fun K "off_all" "off_all" s_off_all f fd) : FnOk P w K mg base (L2.CX P w) 2 f fd ["ways", "walls", "prime"] (spF ⟨K, ca⟩ (fnOf 3 4 b_off_all) 3) :=
  fn_ok (k := 1) F sc_off_all b_off_all fun cdv A outer s H E hr o => ⟨_,
  (jps_one (jp_ret (jv_s (js_len (jb_s (js_v (jv_lc (own := [("point", 3)]) o.calm o.nd (ji_listB (jb_s (js_v (jv_call C_points_by_rests (hr.mono (by decide)) o.call (ja_cons (js_var 0 (pv 0)) (ja_cons (js_var 2 (pv 2)) ja_nil)))))) (blkOk_by (show blkC ["ways", "walls", "prime", "point"] (defScope s_off_all) _ _ = true by decide +kernel)) (fun _ _ _ _ _ => by exact (jg_name (i := 3) o.nd rfl (by first | exact .inl rfl | exact .inr rfl))) (fun _ _ _ _ _ => by exact (jc_one (by exact (jt_val (js_v (jv_call C_is_off (hr.mono (by decide)) passL (ja_cons (js_var 1 (pv 1)) (ja_cons (js_var 3 (pv 3)) (ja_cons (js_var 2 (pv 2)) ja_nil))))))))) (fun _ _ _ _ _ => by exact (js_var 3 (pv 3))) (by decide) s H))) T.b_len))))⟩
theorem ok__law_cell_at {f : Addr} {fd : FuncData} (T : Blt mg)  (F : Fun K "_law_cell_at" "_law_cell_at" s__law_cell_at f fd) : FnOk P w K mg base (L2.CX P w) 1 f fd ["_law_script", "_law_k"] (spF ⟨K, ca⟩ (fnOf 2 2 b__law_cell_at) 2) :=
  fn_ok (k := 0) F sc__law_cell_at b__law_cell_at fun cdv A outer s H E hr o => ⟨_,
  (jps_cons (jp_if (jt_cmp op_lt opsem_lt (nomark _) (jb_var 1 (pv 1)) (jb_s (js_len (jb_var 0 (pv 0)) T.b_len)))
  (jps_one (jp_ret (jv_s (js_ix (jb_var 0 (pv 0)) (jb_var 1 (pv 1))))))
  jps_nil)
  (jps_one (jp_ret (jv_s js_int))))⟩
theorem ok__law_whole {f : Addr} {fd : FuncData} (T : Blt mg)  (F : Fun K "_law_whole" "_law_whole" s__law_whole f fd) : FnOk P w K mg base (L2.CX P w) 1 f fd ["_law_found"] (spF ⟨K, ca⟩ (fnOf 1 1 b__law_whole) 1) :=
  fn_ok (k := 0) F sc__law_whole b__law_whole fun cdv A outer s H E hr o => ⟨_,
  (jps_one (jp_ret (jv_s (js_and (js_isi "int" (jb_var 0 (pv 0)) T.b_isinstance T.b_int (by decide +kernel)) (js_one (js_not (js_isi "bool" (jb_var 0 (pv 0)) T.b_isinstance T.b_bool (by decide +kernel))))))))⟩
theorem ok__law_block {f : Addr} {fd : FuncData} (T : Blt mg)  (F : Fun K "_law_block" "_law_block" s__law_block f fd) : FnOk P w K mg base (L2.CX P w) 1 f fd ["_law_script", "_law_k"] (spF ⟨K, ca⟩ (fnOf 2 4 b__law_block) 2) :=
  fn_ok (k := 0) F sc__law_block b__law_block fun cdv A outer s H E hr o => ⟨_,
  (jps_cons (jp_set (i := 2) (jv_s js_int) o.nd rfl (by first | exact .inl rfl | exact .inr rfl))
  (jps_cons (jp_if (jt_cmp op_lt opsem_lt (nomark _) (jb_s (js_v (jv_add (jb_s js_int) (jb_s (js_mod (jb_s (js_div (jb_var 1 (pv 1)) (jb_s js_int))) (jb_s js_int)))))) (jb_s (js_len (jb_var 0 (pv 0)) T.b_len)))
  (jps_one (jp_set (i := 2) (jv_s (js_div (jb_s (js_ix (jb_var 0 (pv 0)) (jb_s (js_v (jv_add (jb_s js_int) (jb_s (js_mod (jb_s (js_div (jb_var 1 (pv 1)) (jb_s js_int))) (jb_s js_int)))))))) (jb_s (js_pow (jb_s js_int) (jb_s js_int))))) o.nd rfl (by first | exact .inl rfl | exact .inr rfl)))
  jps_nil)
  (jps_cons (jp_for (ji_range1 (ja_cons (js_mod (jb_var 1 (pv 1)) (jb_s js_int)) ja_nil) T.b_range) (jg_name (i := 3) o.nd rfl (by first | exact .inl rfl | exact .inr rfl))
  (jps_one (jp_set (i := 2) (jv_s (js_div (jb_var 2 (pv 2)) (jb_s js_int))) o.nd rfl (by first | exact .inl rfl | exact .inr rfl))) o.pas o.calm)
  (jps_one (jp_retVar 2 (pv 2))))))⟩
theorem ok__law_mixed {f : Addr} {fd : FuncData} (T : Blt mg) (C__law_block : Callee P w K mg base ca "_law_block" 1 f__law_block 2) (F : Fun K "_law_mixed" "_law_mixed" s__law_mixed f fd) : FnOk P w K mg base (L2.CX P w) 2 f fd ["_law_script", "_law_k"] (spF ⟨K, ca⟩ (fnOf 2 4 b__law_mixed) 2) :=
  fn_ok (k := 1) F sc__law_mixed b__law_mixed fun cdv A outer s H E hr o => ⟨_,
  (jps_cons (jp_set (i := 2) (jv_s js_int) o.nd rfl (by first | exact .inl rfl | exact .inr rfl))
  (jps_cons (jp_if (jt_cmp op_gt opsem_gt (nomark _) (jb_s (js_len (jb_var 0 (pv 0)) T.b_len)) (jb_s js_int))
  (jps_one (jp_set (i := 2) (jv_s (js_ix (jb_var 0 (pv 0)) (jb_s js_int))) o.nd rfl (by first | exact .inl rfl | exact .inr rfl)))
  jps_nil)
  (jps_cons (jp_if (jt_w (jw_and (jt_cmp (op_eqD (by exact o.u64)) opsem_eq (nomark _) (jb_s (js_mod (jb_s (js_div (jb_var 2 (pv 2)) (jb_s (js_pow (jb_s js_int) (jb_s js_int))))) (jb_s js_int))) (jb_s js_int)) (jw_and1 (jt_cmp (op_neD (by exact o.u64)) opsem_ne (nomark _) (jb_s (js_v (jv_call C__law_block (hr.mono (by decide)) o.call (ja_cons (js_var 0 (pv 0)) (ja_cons (js_var 1 (pv 1)) ja_nil))))) (jb_s js_int)))))
  (jps_one (jp_ret (jv_s (js_mod (jb_s (js_v (jv_call C__law_block (hr.mono (by decide)) o.call (ja_cons (js_var 0 (pv 0)) (ja_cons (js_var 1 (pv 1)) ja_nil))))) (jb_s js_int)))))
  jps_nil)
  (jps_cons (jp_if (jt_cmp op_gt opsem_gt (nomark _) (jb_s (js_len (jb_var 0 (pv 0)) T.b_len)) (jb_s js_int))
  (jps_one (jp_set (i := 2) (jv_s (js_ix (jb_var 0 (pv 0)) (jb_s (js_mod (jb_var 1 (pv 1)) (jb_s (js_min (jb_s js_int) (jb_s (js_len (jb_var 0 (pv 0)) T.b_len)) T.b_min o.calm)))))) o.nd rfl (by first | exact .inl rfl | exact .inr rfl)))
  jps_nil)
  (jps_cons (jp_set (i := 3) (jv_add (jb_s (js_mod (jb_var 2 (pv 2)) (jb_s (js_pow (jb_s js_int) (jb_s js_int))))) (jb_s (js_mul (jb_s js_int) (jb_s (js_v (jv_add (jb_var 1 (pv 1)) (jb_s js_int))))))) o.nd rfl (by first | exact .inl rfl | exact .inr rfl))
  (jps_cons (jp_set (i := 3) (jv_add (jb_s (js_mod (jb_s (js_mul (jb_var 3 (pv 3)) (jb_var 3 (pv 3)))) (jb_s js_int))) (jb_s (js_mul (jb_s js_int) (jb_var 1 (pv 1))))) o.nd rfl (by first | exact .inl rfl | exact .inr rfl))
  (jps_one (jp_ret (jv_s (js_mod (jb_s (js_mul (jb_var 3 (pv 3)) (jb_var 3 (pv 3)))) (jb_s js_int)))))))))))⟩
theorem ok__law_divisor {f : Addr} {fd : FuncData} (T : Blt mg)  (F : Fun K "_law_divisor" "_law_divisor" s__law_divisor f fd) : FnOk P w K mg base (L2.CX P w) 1 f fd ["_law_one", "_law_other"] (spF ⟨K, ca⟩ (fnOf 2 2 b__law_divisor) 2) :=
  fn_ok (k := 0) F sc__law_divisor b__law_divisor fun cdv A outer s H E hr o => ⟨_,
  (jps_cons (jp_set (i := 0) (jv_s (js_abs (jb_var 0 (pv 0)) T.b_abs)) o.nd rfl (by first | exact .inl rfl | exact .inr rfl))
  (jps_cons (jp_set (i := 1) (jv_s (js_abs (jb_var 1 (pv 1)) T.b_abs)) o.nd rfl (by first | exact .inl rfl | exact .inr rfl))
  (jps_cons (jp_while (jt_cmp op_gt opsem_gt (nomark _) (jb_var 1 (pv 1)) (jb_s js_int))
  (jps_one (jp_fzF 1 (jp_par (i := 0) (j := 1) (ja_cons (js_var 1 (pv 1)) (ja_cons (js_mod (jb_var 0 (pv 0)) (jb_var 1 (pv 1))) ja_nil)) o.calm o.nd rfl rfl (by decide) rfl rfl))) o.pas)
  (jps_one (jp_retVar 0 (pv 0))))))⟩
theorem ok__law_digits {f : Addr} {fd : FuncData} (T : Blt mg) (C__law_cell_at : Callee P w K mg base ca "_law_cell_at" 1 f__law_cell_at 2) (C__law_mixed : Callee P w K mg base ca "_law_mixed" 2 f__law_mixed 2) (F : Fun K "_law_digits" "_law_digits" s__law_digits f fd) : FnOk P w K mg base (L2.CX P w) 3 f fd ["_law_script", "_law_start", "_law_many", "_law_base"] (spF ⟨K, ca⟩ (fnOf 4 7 b__law_digits) 4) :=
  fn_ok (k := 2) F sc__law_digits b__law_digits fun cdv A outer s H E hr o => ⟨_,
  (jps_cons (jp_set (i := 4) (jv_lst ja_nil) o.nd rfl (by first | exact .inl rfl | exact .inr rfl))
  (jps_cons (jp_set (i := 5) (jv_call C__law_cell_at (hr.mono (by decide)) o.call (ja_cons (js_var 0 (pv 0)) (ja_cons js_int ja_nil))) o.nd rfl (by first | exact .inl rfl | exact .inr rfl))
  (jps_cons (jp_for (ji_range1 (ja_cons (js_var 2 (pv 2)) ja_nil) T.b_range) (jg_name (i := 6) o.nd rfl (by first | exact .inl rfl | exact .inr rfl))
  (jps_one (jp_if (jt_cmp (op_eqD (by exact o.u64)) opsem_eq (nomark _) (jb_s (js_mod (jb_s (js_v (jv_call C__law_cell_at (hr.mono (by decide)) o.call (ja_cons (js_var 0 (pv 0)) (ja_cons js_int ja_nil))))) (jb_s js_int))) (jb_s js_int))
   (jps_cons (jp_append 4 (pv 4) (js_mod (jb_var 5 (pv 5)) (jb_var 3 (pv 3))))
    (jps_one (jp_set (i := 5) (jv_s (js_div (jb_var 5 (pv 5)) (jb_var 3 (pv 3)))) o.nd rfl (by first | exact .inl rfl | exact .inr rfl))))
   (jps_one (jp_append 4 (pv 4) (js_mod (jb_s (js_v (jv_call C__law_mixed (hr.mono (by decide)) o.call (ja_cons (js_var 0 (pv 0)) (ja_cons (js_v (jv_add (jb_var 1 (pv 1)) (jb_var 6 (pv 6)))) ja_nil))))) (jb_var 3 (pv 3))))))) o.pas o.calm)
  (jps_one (jp_retVar 4 (pv 4))))))⟩
theorem ok__law_plain {f : Addr} {fd : FuncData} (T : Blt mg) (C__law_divisor : Callee P w K mg base ca "_law_divisor" 1 f__law_divisor 2) (F : Fun K "_law_plain" "_law_plain" s__law_plain f fd) : FnOk P w K mg base (L2.CX P w) 2 f fd ["_law_row"] (spF ⟨K, ca⟩ (fnOf 1 4 b__law_plain) 1) :=
  fn_ok (k := 1) F sc__law_plain b__law_plain fun cdv A outer s H E hr o => ⟨_,
  (jps_cons (jp_set (i := 1) (jv_s js_int) o.nd rfl (by first | exact .inl rfl | exact .inr rfl))
  (jps_cons (jp_set (i := 2) (jv_s js_int) o.nd rfl (by first | exact .inl rfl | exact .inr rfl))
  (jps_cons (jp_for (ji_mix (js_var 0 (pv 0))) (jg_name (i := 3) o.nd rfl (by first | exact .inl rfl | exact .inr rfl))
  (jps_cons (jp_fzF 1 (jp_set (i := 1) (jv_call C__law_divisor (hr.mono (by decide)) o.call (ja_cons (js_var 1 (pv 1)) (ja_cons (js_var 3 (pv 3)) ja_nil))) o.nd rfl (by first | exact .inl rfl | exact .inr rfl)))
   (jps_one (jp_if (jt_cmp (op_eqD (by exact o.u64)) opsem_eq (nomark _) (jb_var 2 (pv 2)) (jb_s js_int))
   (jps_one (jp_set (i := 2) (jv_s (js_var 3 (pv 3))) o.nd rfl (by first | exact .inl rfl | exact .inr rfl)))
   jps_nil))) o.pas o.calm)
  (jps_cons (jp_if (jt_cmp op_lt opsem_lt (nomark _) (jb_var 2 (pv 2)) (jb_s js_int))
  (jps_one (jp_set (i := 1) (jv_s (js_sub (jb_s js_int) (jb_var 1 (pv 1)))) o.nd rfl (by first | exact .inl rfl | exact .inr rfl)))
  jps_nil)
  (jps_one (jp_ret (jv_s (js_tuplec (jb_s (js_v (jv_lc (own := [("_law_number", 3)]) o.calm o.nd (ji_mix (js_var 0 (pv 0))) (blkOk_by (show blkC ["_law_row", "_law_by", "_law_lead", "_law_number"] (defScope s__law_plain) _ _ = true by decide +kernel)) (fun _ _ _ _ _ => by exact (jg_name (i := 3) o.nd rfl (by first | exact .inl rfl | exact .inr rfl))) (fun _ _ _ _ _ => by exact jc_nil) (fun _ _ _ _ _ => by exact (js_div (jb_var 3 (pv 3)) (jb_var 1 (pv 1)))) (by decide) s H))) T.b_tuple))))))))⟩
theorem ok__law_fences {f : Addr} {fd : FuncData} (T : Blt mg) (C__law_digits : Callee P w K mg base ca "_law_digits" 3 f__law_digits 4) (C__law_plain : Callee P w K mg base ca "_law_plain" 2 f__law_plain 1) (F : Fun K "_law_fences" "_law_fences" s__law_fences f fd) : FnOk P w K mg base (L2.CX P w) 4 f fd ["_law_script", "_law_start", "_law_ways", "_law_many"] (spF ⟨K, ca⟩ (fnOf 4 10 b__law_fences) 4) :=
  fn_ok (k := 3) F sc__law_fences b__law_fences fun cdv A outer s H E hr o => ⟨_,
  (jps_cons (jp_set (i := 4) (jv_call C__law_digits (hr.mono (by decide)) o.call (ja_cons (js_var 0 (pv 0)) (ja_cons (js_var 1 (pv 1)) (ja_cons (js_mul (jb_s (js_v (jv_add (jb_var 2 (pv 2)) (jb_s js_int)))) (jb_var 3 (pv 3))) (ja_cons js_int ja_nil))))) o.nd rfl (by first | exact .inl rfl | exact .inr rfl))
  (jps_cons (jp_set (i := 5) (jv_lst ja_nil) o.nd rfl (by first | exact .inl rfl | exact .inr rfl))
  (jps_cons (jp_for (ji_range1 (ja_cons (js_var 3 (pv 3)) ja_nil) T.b_range) (jg_name (i := 6) o.nd rfl (by first | exact .inl rfl | exact .inr rfl))
  (jps_cons (by first | exact (jp_setLc (i := 7) (own := [("_law_digit", 8)]) o.calm o.nd rfl rfl (sw_true rfl rfl rfl (by decide +kernel)) (ji_listB (jb_s (js_v (jv_slice (jb_var 4 (pv 4)) (jo_some (jb_s (js_mul (jb_s (js_v (jv_add (jb_var 2 (pv 2)) (jb_s js_int)))) (jb_var 6 (pv 6))))) (jo_some (jb_s (js_mul (jb_s (js_v (jv_add (jb_var 2 (pv 2)) (jb_s js_int)))) (jb_s (js_v (jv_add (jb_var 6 (pv 6)) (jb_s js_int))))))))))) (blkOk_by (show blkC ["_law_script", "_law_start", "_law_ways", "_law_many", "_law_digits_here", "_law_found", "_law_k", "_law_row", "_law_digit", "_law_one"] (defScope s__law_fences) _ _ = true by decide +kernel)) (fun _ _ _ _ _ => by exact (jg_name (i := 8) o.nd rfl (by first | exact .inl rfl | exact .inr rfl))) (fun _ _ _ _ _ => by exact jc_nil) (fun _ _ _ _ _ => by exact (js_sub (jb_var 8 (pv 8)) (jb_s js_int))) (by decide) s H) | exact (jp_set (i := 7) (jv_lc (own := [("_law_digit", 8)]) o.calm o.nd (ji_listB (jb_s (js_v (jv_slice (jb_var 4 (pv 4)) (jo_some (jb_s (js_mul (jb_s (js_v (jv_add (jb_var 2 (pv 2)) (jb_s js_int)))) (jb_var 6 (pv 6))))) (jo_some (jb_s (js_mul (jb_s (js_v (jv_add (jb_var 2 (pv 2)) (jb_s js_int)))) (jb_s (js_v (jv_add (jb_var 6 (pv 6)) (jb_s js_int))))))))))) (blkOk_by (show blkC ["_law_script", "_law_start", "_law_ways", "_law_many", "_law_digits_here", "_law_found", "_law_k", "_law_row", "_law_digit", "_law_one"] (defScope s__law_fences) _ _ = true by decide +kernel)) (fun _ _ _ _ _ => by exact (jg_name (i := 8) o.nd rfl (by first | exact .inl rfl | exact .inr rfl))) (fun _ _ _ _ _ => by exact jc_nil) (fun _ _ _ _ _ => by exact (js_sub (jb_var 8 (pv 8)) (jb_s js_int))) (by decide) s H) o.nd rfl (by first | exact .inl rfl | exact .inr rfl)))
   (jps_one (jp_if (jt_val (js_any (jb_s (js_v (jv_slice (jb_var 7 (pv 7)) jo_none (jo_some (jb_s (js_neg (jb_s js_int))))))) T.b_any o.calm))
   (jps_cons (jp_fzF 7 (jp_set (i := 9) (jv_call C__law_plain (hr.mono (by decide)) o.call (ja_cons (js_var 7 (pv 7)) ja_nil)) o.nd rfl (by first | exact .inl rfl | exact .inr rfl)))
    (jps_one (jp_if (jt_cmp (op_notInD (by exact o.u65)) opsem_nin (by with_unfolding_all rfl) (jb_var 9 (pv 9)) (jb_var 5 (pv 5)))
    (jps_one (jp_append 5 (pv 5) (js_var 9 (pv 9))))
    jps_nil)))
   jps_nil))) o.pas o.calm)
  (jps_one (jp_retVar 5 (pv 5))))))⟩
theorem ok__law_count {f : Addr} {fd : FuncData} (T : Blt mg)  (F : Fun K "_law_count" "_law_count" s__law_count f fd) (n : Nat) (C__law_count : Callee P w K mg base ca "_law_count" (0 + n) (f__law_count n) 4) : FnOk P w K mg base (L2.CX P w) (0 + n + 1) f fd ["_law_shuts", "_law_prime", "_law_sums", "_law_ways"] (spF ⟨K, ca⟩ (fnOf 4 9 (b__law_count (f__law_count n))) 4) :=
  fn_ok (k := 0 + n) F sc__law_count (b__law_count (f__law_count n)) fun cdv A outer s H E hr o => ⟨_,
  (jps_cons (jp_if (jt_cmp (op_eqD (by exact o.u64)) opsem_eq (nomark _) (jb_var 3 (pv 3)) (jb_s js_int))
  (jps_one (jp_ret (jv_s (js_intc (jb_s (js_cmp (op_eqD (by exact o.u64)) opsem_eq (nomark _) (jb_s (js_v (jv_lc (own := [("_law_total", 4)]) o.calm o.nd (ji_listB (jb_var 2 (pv 2))) (blkOk_by (show blkC ["_law_shuts", "_law_prime", "_law_sums", "_law_ways", "_law_total", "_law_many", "_law_number", "_law_later", "_law_one"] (defScope s__law_count) _ _ = true by decide +kernel)) (fun _ _ _ _ _ => by exact (jg_name (i := 4) o.nd rfl (by first | exact .inl rfl | exact .inr rfl))) (fun _ _ _ _ _ => by exact (jc_one (by exact (jt_cmp (op_eqD (by exact o.u64)) opsem_eq (nomark _) (jb_s (js_mod (jb_var 4 (pv 4)) (jb_var 1 (pv 1)))) (jb_s js_int))))) (fun _ _ _ _ _ => by exact (js_var 4 (pv 4))) (by decide) s H))) (jb_s (js_v (jv_lst ja_nil))))) T.b_int))))
  jps_nil)
  (jps_cons (jp_set (i := 5) (jv_s js_int) o.nd rfl (by first | exact .inl rfl | exact .inr rfl))
  (jps_cons (jp_for (ji_range1 (ja_cons (js_var 1 (pv 1)) ja_nil) T.b_range) (jg_name (i := 6) o.nd rfl (by first | exact .inl rfl | exact .inr rfl))
  (jps_cons (by first | exact (jp_setLc (i := 7) (own := [("_law_total", 4), ("_law_one", 8)]) o.calm o.nd rfl rfl (sw_true rfl rfl rfl (by decide +kernel)) (ji_zipM (ja_cons (js_var 2 (pv 2)) (ja_cons (js_var 0 (pv 0)) ja_nil)) T.b_zip) (blkOk_by (show blkC ["_law_shuts", "_law_prime", "_law_sums", "_law_ways", "_law_total", "_law_many", "_law_number", "_law_later", "_law_one"] (defScope s__law_count) _ _ = true by decide +kernel)) (fun _ _ _ _ _ => by exact (jg_tup (jgs_cons (jg_name (i := 4) o.nd rfl (by first | exact .inl rfl | exact .inr rfl)) (jgs_cons (jg_name (i := 8) o.nd rfl (by first | exact .inl rfl | exact .inr rfl)) jgs_nil)) o.calm)) (fun _ _ _ _ _ => by exact jc_nil) (fun _ _ _ _ _ => by exact (js_v (jv_add (jb_var 4 (pv 4)) (jb_s (js_mul (jb_var 6 (pv 6)) (jb_s (js_ix (jb_var 8 (pv 8)) (jb_s (js_sub (jb_var 3 (pv 3)) (jb_s js_int)))))))))) (by decide) s H) | exact (jp_set (i := 7) (jv_lc (own := [("_law_total", 4), ("_law_one", 8)]) o.calm o.nd (ji_zipM (ja_cons (js_var 2 (pv 2)) (ja_cons (js_var 0 (pv 0)) ja_nil)) T.b_zip) (blkOk_by (show blkC ["_law_shuts", "_law_prime", "_law_sums", "_law_ways", "_law_total", "_law_many", "_law_number", "_law_later", "_law_one"] (defScope s__law_count) _ _ = true by decide +kernel)) (fun _ _ _ _ _ => by exact (jg_tup (jgs_cons (jg_name (i := 4) o.nd rfl (by first | exact .inl rfl | exact .inr rfl)) (jgs_cons (jg_name (i := 8) o.nd rfl (by first | exact .inl rfl | exact .inr rfl)) jgs_nil)) o.calm)) (fun _ _ _ _ _ => by exact jc_nil) (fun _ _ _ _ _ => by exact (js_v (jv_add (jb_var 4 (pv 4)) (jb_s (js_mul (jb_var 6 (pv 6)) (jb_s (js_ix (jb_var 8 (pv 8)) (jb_s (js_sub (jb_var 3 (pv 3)) (jb_s js_int)))))))))) (by decide) s H) o.nd rfl (by first | exact .inl rfl | exact .inr rfl)))
   (jps_one (jp_fzF 7 (jp_set (i := 5) (jv_add (jb_var 5 (pv 5)) (jb_s (js_v (jv_call C__law_count (hr.mono (by omega)) o.call (ja_cons (js_var 0 (pv 0)) (ja_cons (js_var 1 (pv 1)) (ja_cons (js_var 7 (pv 7)) (ja_cons (js_sub (jb_var 3 (pv 3)) (jb_s js_int)) ja_nil)))))))) o.nd rfl (by first | exact .inl rfl | exact .inr rfl))))) o.pas o.calm)
  (jps_one (jp_retVar 5 (pv 5))))))⟩
theorem ok_law {f : Addr} {fd : FuncData} (T : Blt mg) (C_off_all : Callee P w K mg base ca "off_all" 2 f_off_all 3) (C__law_cell_at : Callee P w K mg base ca "_law_cell_at" 1 f__law_cell_at 2) (C__law_whole : Callee P w K mg base ca "_law_whole" 1 f__law_whole 1) (C__law_mixed : Callee P w K mg base ca "_law_mixed" 2 f__law_mixed 2) (C__law_plain : Callee P w K mg base ca "_law_plain" 2 f__law_plain 1) (C__law_fences : Callee P w K mg base ca "_law_fences" 4 f__law_fences 4) (C__law_count : Callee P w K mg base ca "_law_count" 4 (f__law_count 4) 4) (F : Fun K "law" "law" s_law f fd) : FnOk P w K mg base (L2.CX P w) 5 f fd ["_law_script"] (spF ⟨K, ca⟩ (fnOf 1 10 b_law) 1) :=
  fn_ok (k := 4) F sc_law b_law fun cdv A outer s H E hr o => ⟨_,
  (jps_cons (jp_set (i := 1) (jv_s (js_mod (jb_s (js_div (jb_s (js_v (jv_call C__law_cell_at (hr.mono (by decide)) o.call (ja_cons (js_var 0 (pv 0)) (ja_cons js_int ja_nil))))) (jb_s js_int))) (jb_s js_int))) o.nd rfl (by first | exact .inl rfl | exact .inr rfl))
  (jps_cons (jp_set (i := 2) (jv_call C__law_fences (hr.mono (by decide)) o.call (ja_cons (js_var 0 (pv 0)) (ja_cons js_int (ja_cons (js_var 1 (pv 1)) (ja_cons (js_mod (jb_s (js_div (jb_s (js_v (jv_call C__law_cell_at (hr.mono (by decide)) o.call (ja_cons (js_var 0 (pv 0)) (ja_cons js_int ja_nil))))) (jb_s js_int))) (jb_s js_int)) ja_nil))))) o.nd rfl (by first | exact .inl rfl | exact .inr rfl))
  (jps_cons (jp_if (jt_cmp (op_eqD (by exact o.u64)) opsem_eq (nomark _) (jb_s (js_mod (jb_s (js_div (jb_s (js_v (jv_call C__law_cell_at (hr.mono (by decide)) o.call (ja_cons (js_var 0 (pv 0)) (ja_cons js_int ja_nil))))) (jb_s js_int))) (jb_s js_int))) (jb_s js_int))
  (jps_cons (jp_set (i := 3) (jv_lst ja_nil) o.nd rfl (by first | exact .inl rfl | exact .inr rfl))
   (jps_cons (jp_fzF 2 (jp_for (ji_list (js_var 2 (pv 2))) (jg_name (i := 4) o.nd rfl (by first | exact .inl rfl | exact .inr rfl))
   (jps_cons (jp_set (i := 5) (jv_add (jb_s (js_v (jv_slice (jb_var 4 (pv 4)) jo_none (jo_some (jb_s (js_neg (jb_s js_int))))))) (jb_s (js_tup (ja_cons (js_v (jv_add (jb_s (js_ix (jb_var 4 (pv 4)) (jb_s (js_neg (jb_s js_int))))) (jb_s (js_mod (jb_s (js_v (jv_call C__law_cell_at (hr.mono (by decide)) o.call (ja_cons (js_var 0 (pv 0)) (ja_cons js_int ja_nil))))) (jb_s (js_pow (jb_s js_int) (jb_s js_int))))))) ja_nil)))) o.nd rfl (by first | exact .inl rfl | exact .inr rfl))
    (jps_one (jp_if (jt_cmp (op_notInD (by exact o.u65)) opsem_nin (by with_unfolding_all rfl) (jb_s (js_v (jv_call C__law_plain (hr.mono (by decide)) o.call (ja_cons (js_var 5 (pv 5)) ja_nil)))) (jb_var 3 (pv 3)))
    (jps_one (jp_append 3 (pv 3) (js_v (jv_call C__law_plain (hr.mono (by decide)) o.call (ja_cons (js_var 5 (pv 5)) ja_nil)))))
    jps_nil))) o.pas o.calm))
   (jps_one (jp_fzF 3 (jp_set (i := 2) (jv_s (js_var 3 (pv 3))) o.nd rfl (by first | exact .inl rfl | exact .inr rfl))))))
  jps_nil)
  (jps_cons (jp_set (i := 6) (jv_s (js_ix (jb_s (js_v (jv_lst (ja_cons js_int (ja_cons js_int (ja_cons js_int (ja_cons js_int (ja_cons js_int (ja_cons js_int ja_nil))))))))) (jb_s (js_mod (jb_s (js_v (jv_call C__law_mixed (hr.mono (by decide)) o.call (ja_cons (js_var 0 (pv 0)) (ja_cons js_int ja_nil))))) (jb_s (js_ix (jb_s (js_v (jv_lst (ja_cons js_int (ja_cons js_int (ja_cons js_int (ja_cons js_int ja_nil))))))) (jb_var 1 (pv 1)))))))) o.nd rfl (by first | exact .inl rfl | exact .inr rfl))
  (jps_cons (jp_set (i := 7) (jv_list (jb_var 2 (pv 2)) T.b_list) o.nd rfl (by first | exact .inl rfl | exact .inr rfl))
  (jps_cons (jp_fzF 7 (jp_fzF 6 (jp_set (i := 8) (jv_call C_off_all (hr.mono (by decide)) o.call (ja_cons (js_var 1 (pv 1)) (ja_cons (js_var 7 (pv 7)) (ja_cons (js_var 6 (pv 6)) ja_nil)))) o.nd rfl (by first | exact .inl rfl | exact .inr rfl))))
  (jps_cons (jp_fzF 6 (jp_fzF 2 (jp_set (i := 9) (jv_call C__law_count (hr.mono (by decide)) o.call (ja_cons (js_var 2 (pv 2)) (ja_cons (js_var 6 (pv 6)) (ja_cons (js_v (jv_lc (own := [("_law_one", 4)]) o.calm o.nd (ji_listB (jb_var 2 (pv 2))) (blkOk_by (show blkC ["_law_script", "_law_ways", "_law_shuts", "_law_more", "_law_one", "_law_wide", "_law_prime", "_law_handed", "_law_found", "_law_due"] (defScope s_law) _ _ = true by decide +kernel)) (fun _ _ _ _ _ => by exact (jg_name (i := 4) o.nd rfl (by first | exact .inl rfl | exact .inr rfl))) (fun _ _ _ _ _ => by exact jc_nil) (fun _ _ _ _ _ => by exact (js_sub (jb_s js_int) (jb_s (js_ix (jb_var 4 (pv 4)) (jb_s (js_neg (jb_s js_int))))))) (by decide) s H)) (ja_cons (js_var 1 (pv 1)) ja_nil))))) o.nd rfl (by first | exact .inl rfl | exact .inr rfl))))
  (jps_one (jp_ret (jv_s (js_and (js_v (jv_call C__law_whole (hr.mono (by decide)) o.call (ja_cons (js_var 8 (pv 8)) ja_nil))) (js_and (js_cmp (op_eqD (by exact o.u64)) opsem_eq (nomark _) (jb_var 8 (pv 8)) (jb_var 9 (pv 9))) (js_one (js_cmp (op_eqD (by exact o.u64)) opsem_eq (nomark _) (jb_var 7 (pv 7)) (jb_var 2 (pv 2))))))))))))))))⟩
end
/-! ### the end -/
theorem all_mk {l : PySem.W.OpenLaw} {w : World} {K : PySem.W.Frag} {h : Heap} {mg : Str → Option Value} {fa : Addr} (X : K.In h) (G : h.Ns mainGlobals mg) (hfa : mg "law" = some (.ref fa))
    {g0 g1 g2 g3 g4 g5 g6 g7 g8 g9 g10 g11 g12 : Addr} {od0 an0 od1 an1 od2 an2 od3 an3 od4 an4 od5 an5 od6 an6 od7 an7 od8 an8 od9 an9 od10 an10 od11 an11 od12 an12 : Option Addr} {sl0 sl1 sl2 sl3 sl4 sl5 sl6 sl7 sl8 sl9 sl10 sl11 sl12 : Array (Option Value)} {oc0 kV0 dc0 pm0 cd0 ct0 oc1 kV1 dc1 pm1 cd1 ct1 oc2 kV2 dc2 pm2 cd2 ct2 oc3 kV3 dc3 pm3 cd3 ct3 oc4 kV4 dc4 pm4 cd4 ct4 oc5 kV5 dc5 pm5 cd5 ct5 oc6 kV6 dc6 pm6 cd6 ct6 oc7 kV7 dc7 pm7 cd7 ct7 oc8 kV8 dc8 pm8 cd8 ct8 oc9 kV9 dc9 pm9 cd9 ct9 oc10 kV10 dc10 pm10 cd10 ct10 oc11 kV11 dc11 pm11 cd11 ct11 oc12 kV12 dc12 pm12 cd12 ct12 : Value}
    (a0 : PySem.W.nsIn K mainGlobals "points_by_rests" = some (some (.ref g0))) (l0 : K.lookup g0 = some ⟨oc0, od0, .func (PySem.W.fnOf "points_by_rests" "points_by_rests" (defArgs s_points_by_rests) (defBody s_points_by_rests) (defScope s_points_by_rests) .none kV0 dc0 pm0 an0 cd0 ct0), sl0⟩) (c0 : PySem.W.codeIn K cd0 "points_by_rests" = true) (k0 : PySem.W.keepIn K (.ref g0) = true)
    (a1 : PySem.W.nsIn K mainGlobals "is_off" = some (some (.ref g1))) (l1 : K.lookup g1 = some ⟨oc1, od1, .func (PySem.W.fnOf "is_off" "is_off" (defArgs s_is_off) (defBody s_is_off) (defScope s_is_off) .none kV1 dc1 pm1 an1 cd1 ct1), sl1⟩) (c1 : PySem.W.codeIn K cd1 "is_off" = true) (k1 : PySem.W.keepIn K (.ref g1) = true)
    (a2 : PySem.W.nsIn K mainGlobals "off_all" = some (some (.ref g2))) (l2 : K.lookup g2 = some ⟨oc2, od2, .func (PySem.W.fnOf "off_all" "off_all" (defArgs s_off_all) (defBody s_off_all) (defScope s_off_all) .none kV2 dc2 pm2 an2 cd2 ct2), sl2⟩) (c2 : PySem.W.codeIn K cd2 "off_all" = true) (k2 : PySem.W.keepIn K (.ref g2) = true)
    (a3 : PySem.W.nsIn K mainGlobals "_law_cell_at" = some (some (.ref g3))) (l3 : K.lookup g3 = some ⟨oc3, od3, .func (PySem.W.fnOf "_law_cell_at" "_law_cell_at" (defArgs s__law_cell_at) (defBody s__law_cell_at) (defScope s__law_cell_at) .none kV3 dc3 pm3 an3 cd3 ct3), sl3⟩) (c3 : PySem.W.codeIn K cd3 "_law_cell_at" = true) (k3 : PySem.W.keepIn K (.ref g3) = true)
    (a4 : PySem.W.nsIn K mainGlobals "_law_whole" = some (some (.ref g4))) (l4 : K.lookup g4 = some ⟨oc4, od4, .func (PySem.W.fnOf "_law_whole" "_law_whole" (defArgs s__law_whole) (defBody s__law_whole) (defScope s__law_whole) .none kV4 dc4 pm4 an4 cd4 ct4), sl4⟩) (c4 : PySem.W.codeIn K cd4 "_law_whole" = true) (k4 : PySem.W.keepIn K (.ref g4) = true)
    (a5 : PySem.W.nsIn K mainGlobals "_law_block" = some (some (.ref g5))) (l5 : K.lookup g5 = some ⟨oc5, od5, .func (PySem.W.fnOf "_law_block" "_law_block" (defArgs s__law_block) (defBody s__law_block) (defScope s__law_block) .none kV5 dc5 pm5 an5 cd5 ct5), sl5⟩) (c5 : PySem.W.codeIn K cd5 "_law_block" = true) (k5 : PySem.W.keepIn K (.ref g5) = true)
    (a6 : PySem.W.nsIn K mainGlobals "_law_mixed" = some (some (.ref g6))) (l6 : K.lookup g6 = some ⟨oc6, od6, .func (PySem.W.fnOf "_law_mixed" "_law_mixed" (defArgs s__law_mixed) (defBody s__law_mixed) (defScope s__law_mixed) .none kV6 dc6 pm6 an6 cd6 ct6), sl6⟩) (c6 : PySem.W.codeIn K cd6 "_law_mixed" = true) (k6 : PySem.W.keepIn K (.ref g6) = true)
    (a7 : PySem.W.nsIn K mainGlobals "_law_divisor" = some (some (.ref g7))) (l7 : K.lookup g7 = some ⟨oc7, od7, .func (PySem.W.fnOf "_law_divisor" "_law_divisor" (defArgs s__law_divisor) (defBody s__law_divisor) (defScope s__law_divisor) .none kV7 dc7 pm7 an7 cd7 ct7), sl7⟩) (c7 : PySem.W.codeIn K cd7 "_law_divisor" = true) (k7 : PySem.W.keepIn K (.ref g7) = true)
    (a8 : PySem.W.nsIn K mainGlobals "_law_digits" = some (some (.ref g8))) (l8 : K.lookup g8 = some ⟨oc8, od8, .func (PySem.W.fnOf "_law_digits" "_law_digits" (defArgs s__law_digits) (defBody s__law_digits) (defScope s__law_digits) .none kV8 dc8 pm8 an8 cd8 ct8), sl8⟩) (c8 : PySem.W.codeIn K cd8 "_law_digits" = true) (k8 : PySem.W.keepIn K (.ref g8) = true)
    (a9 : PySem.W.nsIn K mainGlobals "_law_plain" = some (some (.ref g9))) (l9 : K.lookup g9 = some ⟨oc9, od9, .func (PySem.W.fnOf "_law_plain" "_law_plain" (defArgs s__law_plain) (defBody s__law_plain) (defScope s__law_plain) .none kV9 dc9 pm9 an9 cd9 ct9), sl9⟩) (c9 : PySem.W.codeIn K cd9 "_law_plain" = true) (k9 : PySem.W.keepIn K (.ref g9) = true)
    (a10 : PySem.W.nsIn K mainGlobals "_law_fences" = some (some (.ref g10))) (l10 : K.lookup g10 = some ⟨oc10, od10, .func (PySem.W.fnOf "_law_fences" "_law_fences" (defArgs s__law_fences) (defBody s__law_fences) (defScope s__law_fences) .none kV10 dc10 pm10 an10 cd10 ct10), sl10⟩) (c10 : PySem.W.codeIn K cd10 "_law_fences" = true) (k10 : PySem.W.keepIn K (.ref g10) = true)
    (a11 : PySem.W.nsIn K mainGlobals "_law_count" = some (some (.ref g11))) (l11 : K.lookup g11 = some ⟨oc11, od11, .func (PySem.W.fnOf "_law_count" "_law_count" (defArgs s__law_count) (defBody s__law_count) (defScope s__law_count) .none kV11 dc11 pm11 an11 cd11 ct11), sl11⟩) (c11 : PySem.W.codeIn K cd11 "_law_count" = true) (k11 : PySem.W.keepIn K (.ref g11) = true)
    (a12 : PySem.W.nsIn K mainGlobals "law" = some (some (.ref g12))) (l12 : K.lookup g12 = some ⟨oc12, od12, .func (PySem.W.fnOf "law" "law" (defArgs s_law) (defBody s_law) (defScope s_law) .none kV12 dc12 pm12 an12 cd12 ct12), sl12⟩) (c12 : PySem.W.codeIn K cd12 "law" = true) (k12 : PySem.W.keepIn K (.ref g12) = true)
    (z_abs : PySem.W.nsIn K mainGlobals "abs" = some none)
    (z_any : PySem.W.nsIn K mainGlobals "any" = some none)
    (z_bool : PySem.W.nsIn K mainGlobals "bool" = some none)
    (z_int : PySem.W.nsIn K mainGlobals "int" = some none)
    (z_isinstance : PySem.W.nsIn K mainGlobals "isinstance" = some none)
    (z_len : PySem.W.nsIn K mainGlobals "len" = some none)
    (z_list : PySem.W.nsIn K mainGlobals "list" = some none)
    (z_min : PySem.W.nsIn K mainGlobals "min" = some none)
    (z_range : PySem.W.nsIn K mainGlobals "range" = some none)
    (z_tuple : PySem.W.nsIn K mainGlobals "tuple" = some none)
    (z_zip : PySem.W.nsIn K mainGlobals "zip" = some none)
    (ht : ∀ ns : List Int, ns.length ≤ 63 → f_law [.list (ns.map .int)] = .ok (.sh (.bool true))) :
    ∃ fd : FuncData, (∀ (s : Shared) (v : Value), BindsTo s fd ⟨[v], []⟩ [("_law_script", v)]) ∧ ∀ base : Heap, K.In base → base.Ns mainGlobals mg → FnOk l.prog w K mg base (L2.CX l.prog w) 5 fa fd ["_law_script"] (spTrue K) := by
  have e := hfa.symm.trans (PySem.W.mg_of X G a12)
  cases e
  have T : Blt mg := ⟨PySem.W.mg_none_of X G z_abs, PySem.W.mg_none_of X G z_any, PySem.W.mg_none_of X G z_bool, PySem.W.mg_none_of X G z_int, PySem.W.mg_none_of X G z_isinstance, PySem.W.mg_none_of X G z_len, PySem.W.mg_none_of X G z_list, PySem.W.mg_none_of X G z_min, PySem.W.mg_none_of X G z_range, PySem.W.mg_none_of X G z_tuple, PySem.W.mg_none_of X G z_zip⟩
  have F0 := fun_mk (st := s_points_by_rests) l0 c0 k0
  have b0 := F0.binds (ps := ["ways", "prime"]) fun _ _ _ _ _ _ us hl => match us, hl with | [_, _], _ => rfl
  have F1 := fun_mk (st := s_is_off) l1 c1 k1
  have b1 := F1.binds (ps := ["walls", "point", "prime"]) fun _ _ _ _ _ _ us hl => match us, hl with | [_, _, _], _ => rfl
  have F2 := fun_mk (st := s_off_all) l2 c2 k2
  have b2 := F2.binds (ps := ["ways", "walls", "prime"]) fun _ _ _ _ _ _ us hl => match us, hl with | [_, _, _], _ => rfl
  have F3 := fun_mk (st := s__law_cell_at) l3 c3 k3
  have b3 := F3.binds (ps := ["_law_script", "_law_k"]) fun _ _ _ _ _ _ us hl => match us, hl with | [_, _], _ => rfl
  have F4 := fun_mk (st := s__law_whole) l4 c4 k4
  have b4 := F4.binds (ps := ["_law_found"]) fun _ _ _ _ _ _ us hl => match us, hl with | [_], _ => rfl
  have F5 := fun_mk (st := s__law_block) l5 c5 k5
  have b5 := F5.binds (ps := ["_law_script", "_law_k"]) fun _ _ _ _ _ _ us hl => match us, hl with | [_, _], _ => rfl
  have F6 := fun_mk (st := s__law_mixed) l6 c6 k6
  have b6 := F6.binds (ps := ["_law_script", "_law_k"]) fun _ _ _ _ _ _ us hl => match us, hl with | [_, _], _ => rfl
  have F7 := fun_mk (st := s__law_divisor) l7 c7 k7
  have b7 := F7.binds (ps := ["_law_one", "_law_other"]) fun _ _ _ _ _ _ us hl => match us, hl with | [_, _], _ => rfl
  have F8 := fun_mk (st := s__law_digits) l8 c8 k8
  have b8 := F8.binds (ps := ["_law_script", "_law_start", "_law_many", "_law_base"]) fun _ _ _ _ _ _ us hl => match us, hl with | [_, _, _, _], _ => rfl
  have F9 := fun_mk (st := s__law_plain) l9 c9 k9
  have b9 := F9.binds (ps := ["_law_row"]) fun _ _ _ _ _ _ us hl => match us, hl with | [_], _ => rfl
  have F10 := fun_mk (st := s__law_fences) l10 c10 k10
  have b10 := F10.binds (ps := ["_law_script", "_law_start", "_law_ways", "_law_many"]) fun _ _ _ _ _ _ us hl => match us, hl with | [_, _, _, _], _ => rfl
  have F11 := fun_mk (st := s__law_count) l11 c11 k11
  have b11 := F11.binds (ps := ["_law_shuts", "_law_prime", "_law_sums", "_law_ways"]) fun _ _ _ _ _ _ us hl => match us, hl with | [_, _, _, _], _ => rfl
  have F12 := fun_mk (st := s_law) l12 c12 k12
  have b12 := F12.binds (ps := ["_law_script"]) fun _ _ _ _ _ _ us hl => match us, hl with | [_], _ => rfl
  refine ⟨PySem.W.fnOf "law" "law" (defArgs s_law) (defBody s_law) (defScope s_law) .none kV12 dc12 pm12 an12 cd12 ct12, fun s v => .of_eq rfl, fun base _ _ => ?_⟩
  have C_points_by_rests : Callee l.prog w K mg base (fun _ => 0) "points_by_rests" 1 f_points_by_rests 2 := callee_of F0 (ok_points_by_rests T  F0) (PySem.W.mg_of X G a0) b0
  have C_is_off : Callee l.prog w K mg base (fun _ => 0) "is_off" 1 f_is_off 3 := callee_of F1 (ok_is_off T  F1) (PySem.W.mg_of X G a1) b1
  have C__law_cell_at : Callee l.prog w K mg base (fun _ => 0) "_law_cell_at" 1 f__law_cell_at 2 := callee_of F3 (ok__law_cell_at T  F3) (PySem.W.mg_of X G a3) b3
  have C__law_whole : Callee l.prog w K mg base (fun _ => 0) "_law_whole" 1 f__law_whole 1 := callee_of F4 (ok__law_whole T  F4) (PySem.W.mg_of X G a4) b4
  have C__law_block : Callee l.prog w K mg base (fun _ => 0) "_law_block" 1 f__law_block 2 := callee_of F5 (ok__law_block T  F5) (PySem.W.mg_of X G a5) b5
  have C__law_divisor : Callee l.prog w K mg base (fun _ => 0) "_law_divisor" 1 f__law_divisor 2 := callee_of F7 (ok__law_divisor T  F7) (PySem.W.mg_of X G a7) b7
  have C_off_all : Callee l.prog w K mg base (fun _ => 0) "off_all" 2 f_off_all 3 := callee_of F2 (ok_off_all T C_points_by_rests C_is_off F2) (PySem.W.mg_of X G a2) b2
  have C__law_mixed : Callee l.prog w K mg base (fun _ => 0) "_law_mixed" 2 f__law_mixed 2 := callee_of F6 (ok__law_mixed T C__law_block F6) (PySem.W.mg_of X G a6) b6
  have C__law_plain : Callee l.prog w K mg base (fun _ => 0) "_law_plain" 2 f__law_plain 1 := callee_of F9 (ok__law_plain T C__law_divisor F9) (PySem.W.mg_of X G a9) b9
  have C__law_digits : Callee l.prog w K mg base (fun _ => 0) "_law_digits" 3 f__law_digits 4 := callee_of F8 (ok__law_digits T C__law_cell_at C__law_mixed F8) (PySem.W.mg_of X G a8) b8
  have C__law_fences : Callee l.prog w K mg base (fun _ => 0) "_law_fences" 4 f__law_fences 4 := callee_of F10 (ok__law_fences T C__law_digits C__law_plain F10) (PySem.W.mg_of X G a10) b10
  have C__law_count : Callee l.prog w K mg base (fun _ => 0) "_law_count" 4 (f__law_count 4) 4 := Nat.rec (motive := fun n => Callee l.prog w K mg base (fun _ => 0) "_law_count" (0 + n) (f__law_count n) 4) (callee_stuck 0 F11 (PySem.W.mg_of X G a11) b11) (fun n C => callee_of F11 (ok__law_count T  F11 n C) (PySem.W.mg_of X G a11) b11) 4
  exact law_of (ca := (fun _ => 0)) (ok_law T C_off_all C__law_cell_at C__law_whole C__law_mixed C__law_plain C__law_fences C__law_count F12) ht
theorem walk {l : PySem.W.OpenLaw} {q : Program} {loose : List Str} {XP : (Str → Option Value) → Heap → Prop} {YP : World → Heap → Prop} {d : DefRec} {K : Params → PySem.W.Frag} (hn : l.most = some 63) (hdf : d.params.defaults = [])
    (hY : ∀ (w : World) (h : Heap), YP w h → (K w.params).In h)
    (F : ∀ (w : World) (mg : Str → Option Value) (fa : Addr) (h : Heap), (K w.params).In h → h.Ns mainGlobals mg → mg d.name = some (.ref fa) →
      ∃ fd : FuncData, (∀ (s : Shared) (u : Value), BindsTo s fd ⟨[u], []⟩ [("_law_script", u)]) ∧ ∀ base : Heap, (K w.params).In base → base.Ns mainGlobals mg → FnOk l.prog w (K w.params) mg base (L2.CX l.prog w) 5 fa fd ["_law_script"] (spTrue (K w.params))) :
    PySem.W.WalkO q loose XP YP l.row.toRowW d [] (fun f vs => PySem.call f vs) :=
  L2.walk_of (n := 63) (k := 5) (x := "_law_script") (CX := fun w => L2.CX l.prog w) (sp := fun w => spTrue (K w.params)) hn (by decide) hdf ⟨rfl, by decide, by decide⟩ hY F (fun _ _ a ns hl _ hS => ⟨a, ns, rfl, hS, hl, fun _ => rfl⟩) fun _ _ _ _ _ z => by obtain ⟨_, _, _, _, _, _, _, _, _, _, _, _, z⟩ := z; exact z
end PF

namespace PF
open PySem L2
theorem ev_ldivisor (a b : Int) : f__law_divisor [.int a, .int b] = .ok (.sh (.int (Int.gcd a b))) := by
  unfold f__law_divisor
  rw [fnOf2]
  have h := gcd_loop (C := p2__law_divisor) (B := p1__law_divisor) (fun x y => by simp [p2__law_divisor]) (fun x y hy => by simp [p1__law_divisor, fz1_eq, modD_ok (show y ≠ 0 by omega)]) b.natAbs a.natAbs b.natAbs (by omega) (by omega) (by omega)
  rw [gcd_abs] at h
  simp [b__law_divisor, abs_if, h]
theorem ev_lcell (ns : List Int) (k : Nat) : f__law_cell_at [.list (ns.map .int), .int k] = .ok (.sh (.int (ns.getD k 0))) := by
  have hl : (ns.map PyData.int).length = ns.length := List.length_map _
  by_cases h : k < ns.length
  · have hg : getP (ns.map PyData.int) (k : Int) = .ok (.int ns[k]) := getP_nat (by rw [List.getElem?_map, List.getElem?_eq_getElem h]; rfl)
    simp [f__law_cell_at, fnOf2, b__law_cell_at, hl, h, hg]
  · have e : ns.getD k 0 = 0 := by rw [List.getD_eq_getElem?_getD, List.getElem?_eq_none (by omega)]; rfl
    simp [f__law_cell_at, fnOf2, b__law_cell_at, hl, h, e]
theorem ev_lwhole (a : Int) : f__law_whole [.int a] = .ok (.sh (.bool true)) := by
  simp [f__law_whole, fnOf1, b__law_whole]
theorem fmod_bd (a m : Int) (h : 0 < m) : 0 ≤ a.fmod m ∧ a.fmod m < m := ⟨Int.fmod_nonneg_of_pos a h, Int.fmod_lt_of_pos a h⟩
theorem lim_eq : (lim : Nat) = 1000000 := rfl
theorem ev_block_tail (S : Sl) (k : Nat) (c : Int) (x : Sl) : ∃ b : Int, q2__law_block [S, .sh (.int k), .sh (.int c), x] = .ok (.rt (.sh (.int b))) := by
  obtain ⟨r0, r1⟩ := fmod_bd (k : Int) 8 (by decide)
  obtain ⟨h, _⟩ := for_fold (T := tgN 3) (B := p1__law_block) (σ := Int × Sl) (fun s => [S, .sh (.int k), .sh (.int s.1), s.2]) natD (fun s a => (s.1.fdiv 2147483587, .sh (natD a))) (fun _ => True)
    (List.range ((k : Int).fmod 8).toNat) (c, x) trivial fun s a _ _ => ⟨trivial, _, rfl, by simp [p1__law_block, divD_ok, divOk_lit]⟩
  generalize ((List.range ((k : Int).fmod 8).toNat).foldl (fun s a => (s.1.fdiv 2147483587, .sh (natD a))) (c, x) : Int × Sl) = R at h
  have h : forF (tgN 3) p1__law_block (List.map natD (List.range ((k : Int).fmod 8).toNat)) [S, .sh (.int k), .sh (.int c), x] = _ := h
  exact ⟨R.1, by simp [q2__law_block, modD_ok, rng1_int r0 (by omega), h]⟩
theorem ev_block (ns : List Int) (k : Nat) : ∃ b : Int, f__law_block [.list (ns.map .int), .int k] = .ok (.sh (.int b)) := by
  obtain ⟨r0, r1⟩ := fmod_bd ((k : Int).fdiv 8) 62 (by decide)
  generalize hr : ((k : Int).fdiv 8).fmod 62 = r at r0 r1
  have hl : (ns.map PyData.int).length = ns.length := List.length_map _
  have d64 : ∀ x : Int, divOk x 10000000000000000000000000000000000000000000000000000000000000000 := fun x => divOk_of (n := 250) (by decide) (by decide) (by decide)
  by_cases h : 1 + r < ns.length
  · have hg : getP (ns.map PyData.int) (1 + r) = .ok (.int (ns[(1 + r).toNat]'(by omega))) := getP_int (by omega) (by rw [List.getElem?_map, List.getElem?_eq_getElem (by omega)]; rfl)
    obtain ⟨b, e⟩ := ev_block_tail (.sh (.list (ns.map .int))) k ((ns[(1 + r).toNat]'(by omega)).fdiv 10000000000000000000000000000000000000000000000000000000000000000) .no
    exact ⟨b, by simp [f__law_block, fnOf2, b__law_block, modD_ok, divD_ok, divOk_lit, hr, hl, h, hg, d64, e]⟩
  · obtain ⟨b, e⟩ := ev_block_tail (.sh (.list (ns.map .int))) k 0 .no
    exact ⟨b, by simp [f__law_block, fnOf2, b__law_block, modD_ok, divD_ok, divOk_lit, hr, hl, h, e]⟩
theorem ev_mixed_tail (S y : Sl) (c : Int) (k : Nat) (hk : k < 1000000) : ∃ m : Int, 0 ≤ m ∧ m < 2147483587 ∧ q4__law_mixed [S, .sh (.int k), .sh (.int c), y] = .ok (.rt (.sh (.int m))) := by
  obtain ⟨a0, a1⟩ := fmod_bd c 1000000000000000000 (by decide)
  have e1 : mulOk (48271 : Int) ((k : Int) + 1) := mulOk_left (by decide)
  generalize hn : c.fmod 1000000000000000000 + 48271 * ((k : Int) + 1) = n1
  have b1 : n1.natAbs < 2 ^ 64 := by rw [show (2 : Nat) ^ 64 = 18446744073709551616 from rfl]; omega
  obtain ⟨c0, c1⟩ := fmod_bd (n1 * n1) 2147483629 (by decide)
  have e2 : mulOk (69621 : Int) (k : Int) := mulOk_left (by decide)
  generalize hn2 : (n1 * n1).fmod 2147483629 + 69621 * (k : Int) = n2
  have b2 : n2.natAbs < 2 ^ 64 := by rw [show (2 : Nat) ^ 64 = 18446744073709551616 from rfl]; omega
  obtain ⟨d0, d1⟩ := fmod_bd (n2 * n2) 2147483587 (by decide)
  exact ⟨(n2 * n2).fmod 2147483587, d0, d1, by simp [q4__law_mixed, modD_ok, mulD_ok e1, hn, mulD_ok (mulOk_left b1), mulD_ok e2, hn2, mulD_ok (mulOk_left b2)]⟩
theorem ev_mixed_mid (ns : List Int) (y : Sl) (c : Int) (k : Nat) (hk : k < 1000000) : ∃ m : Int, 0 ≤ m ∧ m < 2147483587 ∧ q2__law_mixed [.sh (.list (ns.map .int)), .sh (.int k), .sh (.int c), y] = .ok (.rt (.sh (.int m))) := by
  obtain ⟨b, eb⟩ := ev_block ns k
  obtain ⟨q0, q1⟩ := fmod_bd b 2147483587 (by decide)
  have hl : (ns.map PyData.int).length = ns.length := List.length_map _
  by_cases h1 : (c.fdiv 1000000).fmod 2 = 1 ∧ b ≠ 0
  · have h2 : (b == 0) = false := beq_eq_false_iff_ne.mpr h1.2
    exact ⟨b.fmod 2147483587, q0, q1, by simp [q2__law_mixed, divD_ok, divOk_lit, modD_ok, h1.1, eb, h2]⟩
  · have go : ∃ m : Int, 0 ≤ m ∧ m < 2147483587 ∧ (fSeq (fIf (fB (fOp gtD (fUn lenD (fVarB 0)) (fC (.int 0)))) (fSet 2 (fV (fOp ixD (fVarB 0) (fOp modD (fVarB 1) (fOp min2D (fC (.int 63)) (fUn lenD (fVarB 0))))))) fSkip) q4__law_mixed) [.sh (.list (ns.map .int)), .sh (.int k), .sh (.int c), y] = .ok (.rt (.sh (.int m))) := by
      by_cases h0 : 0 < ns.length
      · have hmin : (0 : Int) < (if (ns.length : Int) < 63 then (ns.length : Int) else 63) := by split <;> omega
        obtain ⟨i0, i1⟩ := fmod_bd (k : Int) _ hmin
        have hi : ((k : Int).fmod (if (ns.length : Int) < 63 then (ns.length : Int) else 63)).toNat < ns.length := by
          split at i1 <;> split <;> omega
        have hg := getP_int (ds := ns.map PyData.int) i0 (by rw [List.getElem?_map, List.getElem?_eq_getElem hi]; rfl)
        obtain ⟨m, m0, m1, e⟩ := ev_mixed_tail (.sh (.list (ns.map .int))) y (ns[((k : Int).fmod (if (ns.length : Int) < 63 then (ns.length : Int) else 63)).toNat]) k hk
        have hmd := modD_ok (a := (k : Int)) (show (if (ns.length : Int) < 63 then (ns.length : Int) else 63) ≠ 0 by omega)
        have h00 : (0 : Int) < ns.length := by omega
        exact ⟨m, m0, m1, by simp [hl, h0, h00, hmd, hg, e]⟩
      · obtain ⟨m, m0, m1, e⟩ := ev_mixed_tail (.sh (.list (ns.map .int))) y c k hk
        have h00 : ¬ (0 : Int) < ns.length := by omega
        exact ⟨m, m0, m1, by simp [hl, h0, h00, e]⟩
    obtain ⟨m, m0, m1, e⟩ := go
    refine ⟨m, m0, m1, ?_⟩
    unfold q2__law_mixed
    rw [z_seq]
    by_cases h3 : (c.fdiv 1000000).fmod 2 = 1
    · have h2 : b = 0 := by
        by_cases hb : b = 0
        · exact hb
        · exact absurd ⟨h3, hb⟩ h1
      subst h2
      rw [show (fIf (fAnd (fB (fOp eqD (fOp modD (fOp divD (fVarB 2) (fOp powD (fC (.int 10)) (fC (.int 6)))) (fC (.int 2))) (fC (.int 1)))) (fB (fOp neD (fSh (fCall f__law_block (fCons (fVarS 0) (fCons (fVarS 1) fNil)))) (fC (.int 0)))))
        (fRet (fV (fOp modD (fSh (fCall f__law_block (fCons (fVarS 0) (fCons (fVarS 1) fNil)))) (fC (.int 2147483587))))) fSkip) [.sh (.list (ns.map .int)), .sh (.int k), .sh (.int c), y] = .ok (.nx [.sh (.list (ns.map .int)), .sh (.int k), .sh (.int c), y]) by
          simp [divD_ok, divOk_lit, modD_ok, h3, eb], z_anx]
      exact e
    · have h4 : ((c.fdiv 1000000).fmod 2 == 1) = false := beq_eq_false_iff_ne.mpr h3
      rw [show (fIf (fAnd (fB (fOp eqD (fOp modD (fOp divD (fVarB 2) (fOp powD (fC (.int 10)) (fC (.int 6)))) (fC (.int 2))) (fC (.int 1)))) (fB (fOp neD (fSh (fCall f__law_block (fCons (fVarS 0) (fCons (fVarS 1) fNil)))) (fC (.int 0)))))
        (fRet (fV (fOp modD (fSh (fCall f__law_block (fCons (fVarS 0) (fCons (fVarS 1) fNil)))) (fC (.int 2147483587))))) fSkip) [.sh (.list (ns.map .int)), .sh (.int k), .sh (.int c), y] = .ok (.nx [.sh (.list (ns.map .int)), .sh (.int k), .sh (.int c), y]) by
          simp [divD_ok, divOk_lit, modD_ok, h4, eb], z_anx]
      exact e
theorem ev_mixed (ns : List Int) (k : Nat) (hk : k < 1000000) : ∃ m : Int, 0 ≤ m ∧ m < 2147483587 ∧ f__law_mixed [.list (ns.map .int), .int k] = .ok (.sh (.int m)) := by
  cases ns with
  | nil =>
    obtain ⟨m, m0, m1, e⟩ := ev_mixed_mid [] .no 0 k hk
    simp only [List.map_nil] at e
    exact ⟨m, m0, m1, by simp [f__law_mixed, fnOf2, b__law_mixed, e]⟩
  | cons n0 ns =>
    obtain ⟨m, m0, m1, e⟩ := ev_mixed_mid (n0 :: ns) .no n0 k hk
    simp only [List.map_cons] at e
    have h0 : (0 : Int) < (((PyData.int n0 :: ns.map PyData.int).length : Nat) : Int) := by rw [List.length_cons]; omega
    exact ⟨m, m0, m1, by simp only [f__law_mixed, fnOf2, b__law_mixed, z_seq, List.map_cons]; simp [e]⟩
theorem ev_digits (ns : List Int) (st n b : Nat) (hs : st ≤ 1000) (hn : n ≤ 10000) (hb0 : 0 < b) (hb : b ≤ 1000) : ∃ ds : List Int, ds.length = n ∧ (∀ d ∈ ds, 0 ≤ d ∧ d < b) ∧ f__law_digits [.list (ns.map .int), .int st, .int n, .int b] = .ok (.ol (ds.map .int)) := by
  have e0 : f__law_cell_at [.list (ns.map .int), .int 0] = _ := ev_lcell ns 0
  have e1 : f__law_cell_at [.list (ns.map .int), .int 1] = _ := ev_lcell ns 1
  generalize ns.getD 0 0 = c0 at *
  generalize ns.getD 1 0 = c1 at *
  have hbi : (b : Int) ≠ 0 := by omega
  have hdv : ∀ x : Int, divOk x (b : Int) := fun x => divOk_lit hbi (by rw [show (2 : Nat) ^ 64 = 18446744073709551616 from rfl]; omega)
  have hmd : ∀ x : Int, modD (.int x) (.int (b : Int)) = .ok (.int (x.fmod b)) := fun x => modD_ok hbi
  have hdd : ∀ x : Int, divD (.int x) (.int (b : Int)) = .ok (.int (x.fdiv b)) := fun x => divD_ok (hdv x)
  obtain ⟨ρ', el, ds, x5, x6, dl, db, rfl⟩ := for_inv (T := tgN 6) (B := p1__law_digits) (ds := (List.range n).map natD) (ρ := [.sh (.list (ns.map .int)), .sh (.int st), .sh (.int n), .sh (.int b), .ol [], .sh (.int c1), .no])
    (fun i ρ => ∃ (ds : List Int) (x5 : Int) (x6 : Sl), ds.length = i ∧ (∀ d ∈ ds, 0 ≤ d ∧ d < b) ∧ ρ = [.sh (.list (ns.map .int)), .sh (.int st), .sh (.int n), .sh (.int b), .ol (ds.map .int), .sh (.int x5), x6])
    ⟨[], c1, .no, rfl, (fun _ h => nomatch h), rfl⟩ (fun i d ρ hd hI => by
      obtain ⟨ds, x5, x6, dl, db, rfl⟩ := hI
      rw [List.getElem?_map] at hd
      obtain ⟨j, hj, rfl⟩ := Option.map_eq_some_iff.mp hd
      have hi : i < n := by
        have := (List.getElem?_eq_some_iff.mp hj).1
        rwa [List.length_range] at this
      have hjn : j < n := by
        have := List.mem_of_getElem? hj
        rwa [List.mem_range] at this
      have hap : (ds.map PyData.int).length < lim := by
        rw [List.length_map, dl]
        have : (lim : Nat) = 1000000 := rfl
        omega
      have grow : ∀ q : Int, 0 ≤ q ∧ q < b → ∀ p ∈ ds ++ [q], 0 ≤ p ∧ p < (b : Int) := fun q hq p hp => by
        rcases List.mem_append.mp hp with h | h
        · exact db p h
        · rw [List.mem_singleton.mp h]; exact hq
      by_cases h : c0.fmod 2 = 1
      · refine ⟨_, _, rfl, ?_, ds ++ [x5.fmod b], x5.fdiv b, .sh (natD j), by rw [List.length_append, dl]; rfl, grow _ (fmod_bd x5 b (by omega)), rfl⟩
        simp [p1__law_digits, e0, modD_ok (a := c0), hmd, hdd, h, appD_ok hap]
      · obtain ⟨M, M0, M1, eM⟩ := ev_mixed ns (st + j) (by omega)
        have eM : f__law_mixed [.list (ns.map .int), .int ((st : Int) + (j : Int))] = .ok (.sh (.int M)) := by
          rw [← eM]
          congr 3
        have h' : (c0.fmod 2 == 1) = false := beq_eq_false_iff_ne.mpr h
        refine ⟨_, _, rfl, ?_, ds ++ [M.fmod b], x5, .sh (natD j), by rw [List.length_append, dl]; rfl, grow _ (fmod_bd M b (by omega)), rfl⟩
        simp [p1__law_digits, natD, e0, eM, modD_ok (a := c0), hmd, h', appD_ok hap])
  refine ⟨ds, by rw [dl, List.length_map, List.length_range], db, ?_⟩
  simp [f__law_digits, fnOf4, b__law_digits, e1, rng1_nat (n := n) (by omega), el]
theorem ev_lplain (b : Bool) (row : List Int) (hn : ∃ x ∈ row, x ≠ 0) (hb : ∀ x ∈ row, x.natAbs < 2 ^ 9000) (hl : row.length ≤ 1000) : f__law_plain [seqD b (row.map .int)] = .ok (.sh (TD (plainL row))) := by
  have hit : itemsM (seqD b (row.map .int)) = .ok (row.map .int) := by cases b <;> rfl
  generalize hS : seqD b (row.map PyData.int) = S at *
  obtain ⟨h, _⟩ := for_fold (T := tgN 3) (B := p1__law_plain) (σ := Int × Int × Sl) (fun s => [.sh S, .sh (.int s.1), .sh (.int s.2.1), s.2.2]) PyData.int plainF (fun _ => True)
    row (0, 0, .no) trivial fun s a _ _ => ⟨trivial, _, rfl, by
      by_cases h0 : s.2.1 = 0
      · simp [p1__law_plain, ev_ldivisor, plainF, gcdF, leadF, fz1_eq, h0]
      · simp [p1__law_plain, ev_ldivisor, plainF, gcdF, leadF, fz1_eq, h0]⟩
  obtain ⟨y, hy⟩ := plainF_fold row (0, 0, .no)
  rw [hy] at h
  have h : forF (tgN 3) p1__law_plain (row.map .int) [.sh S, .sh (.int 0), .sh (.int 0), .no] = .ok (.nx [.sh S, .sh (.int (gcdL row)), .sh (.int (leadL row)), y]) := h
  obtain ⟨x, hx, hx0⟩ := id hn
  have hdv : ∀ a, divOk a (plainBy row) := fun a => divOk_of (plainBy_ne hn) (by rw [plainBy_abs]; exact Nat.lt_of_le_of_lt (gcdL_le hx hx0) (hb x hx)) (Nat.le_refl _)
  have lc : ∀ z : Sl, fLcS (fIt itemsM (fVarS 0)) (tgN 3) fYes (fOp divD (fVarB 3) (fVarB 1)) [3] [.sh S, .sh (.int (plainBy row)), .sh (.int (leadL row)), z] = .ok (.ol (row.map fun x => PyData.int (x.fdiv (plainBy row)))) := fun z =>
    lcS_map row PyData.int _ (by simp [hit]) (fun x _ => ⟨_, rfl, by simp [wipeE, divD_ok (hdv _)]⟩) (Nat.le_trans hl (by decide))
  have e2 : TD (plainL row) = .tuple (row.map fun x => PyData.int (x.fdiv (plainBy row))) := by unfold TD plainL; rw [List.map_map]; rfl
  rw [e2]
  generalize row.map (fun x => PyData.int (x.fdiv (plainBy row))) = OUT at *
  generalize row.map PyData.int = R at *
  by_cases hneg : leadL row < 0
  · have e3 : plainBy row = -gcdL row := by unfold plainBy; rw [if_pos hneg]; omega
    rw [e3] at lc
    simp [f__law_plain, fnOf1, b__law_plain, hit, h, hneg, lc]
  · have e3 : plainBy row = gcdL row := by unfold plainBy; rw [if_neg hneg]
    rw [e3] at lc
    simp [f__law_plain, fnOf1, b__law_plain, hit, h, hneg, lc]
structure Fence (w : Nat) (W : List Int) : Prop where
  len : W.length = w + 1
  bd : ∀ x ∈ W, x.natAbs ≤ 3
  nz : ∃ y ∈ W.dropLast, y ≠ 0
  pl : ∃ row : List Int, W = plainL row ∧ row.length = w + 1 ∧ ∃ y ∈ row.dropLast, y ≠ 0
theorem fence_plain {w : Nat} {row : List Int} (hl : row.length = w + 1) (hb : ∀ x ∈ row, x.natAbs ≤ 3) (hn : ∃ y ∈ row.dropLast, y ≠ 0) : Fence w (plainL row) := by
  obtain ⟨y, hy, h0⟩ := id hn
  have hm : y ∈ row := (List.dropLast_sublist _).subset hy
  refine ⟨by rw [plainL_len]; exact hl, fun x hx => ?_, ?_, row, rfl, hl, hn⟩
  · unfold plainL at hx
    obtain ⟨a, ha, rfl⟩ := List.mem_map.mp hx
    exact Nat.le_trans (plain_le ⟨y, hm, h0⟩ ha) (hb a ha)
  · refine ⟨y.fdiv (plainBy row), ?_, plain_ne hm h0⟩
    unfold plainL
    rw [← List.map_dropLast]
    exact List.mem_map.mpr ⟨y, hy, rfl⟩
theorem bd3 {x : Int} (h : x.natAbs ≤ 3) : x.natAbs < 2 ^ 9000 := bd_mono (m := 2) (show x.natAbs < 2 ^ 2 by omega) (by decide)
theorem ev_lfences (ns : List Int) (st w n : Nat) (hs : st ≤ 1000) (hw : w ≤ 4) (hn : n ≤ 12) : ∃ s : List (List Int), s.length ≤ n ∧ (∀ W ∈ s, Fence w W) ∧ f__law_fences [.list (ns.map .int), .int st, .int w, .int n] = .ok (.ol (s.map TD)) := by
  have hwn : (w + 1) * n ≤ 60 := Nat.le_trans (Nat.mul_le_mul (show w + 1 ≤ 5 by omega) hn) (by decide)
  obtain ⟨ds, dl, db, ed⟩ := ev_digits ns st ((w + 1) * n) 7 hs (by omega) (by decide) (by decide)
  obtain ⟨T, hT⟩ : ∃ T, T = (w + 1) * n := ⟨_, rfl⟩
  rw [← hT] at dl ed
  have ed : f__law_digits [.list (ns.map .int), .int st, .int (T : Int), .int 7] = .ok (.ol (ds.map .int)) := ed
  have mw : ∀ x : Int, mulOk ((w : Int) + 1) x := fun x => mulOk_left (by rw [show (2 : Nat) ^ 64 = 18446744073709551616 from rfl]; omega)
  have mT : mulD (.int ((w : Int) + 1)) (.int (n : Int)) = .ok (.int (T : Int)) := by
    rw [mulD_ok (mw _), hT]
    rfl
  obtain ⟨ρ', el, s, x6, x7, x8, x9, sl, sf, rfl⟩ := for_inv (T := tgN 6) (B := p1__law_fences) (ds := (List.range n).map natD) (ρ := [.sh (.list (ns.map .int)), .sh (.int st), .sh (.int w), .sh (.int n), .ol (ds.map .int), .ol [], .no, .no, .no, .no])
    (fun i ρ => ∃ (s : List (List Int)) (x6 x7 x8 x9 : Sl), s.length ≤ i ∧ (∀ W ∈ s, Fence w W) ∧ ρ = [.sh (.list (ns.map .int)), .sh (.int st), .sh (.int w), .sh (.int n), .ol (ds.map .int), .ol (s.map TD), x6, x7, x8, x9])
    ⟨[], .no, .no, .no, .no, Nat.le_refl _, (fun _ h => nomatch h), rfl⟩ (fun i d ρ hd hI => by
      obtain ⟨s, x6, x7, x8, x9, sl, sf, rfl⟩ := hI
      rw [List.getElem?_map] at hd
      obtain ⟨j, hj, rfl⟩ := Option.map_eq_some_iff.mp hd
      have hji : j < n ∧ i < n := by
        obtain ⟨a, b⟩ := List.getElem?_eq_some_iff.mp hj
        rw [List.getElem_range] at b
        rw [List.length_range] at a
        omega
      obtain ⟨A, hA⟩ : ∃ A, A = (w + 1) * j := ⟨_, rfl⟩
      obtain ⟨B, hB⟩ : ∃ B, B = (w + 1) * (j + 1) := ⟨_, rfl⟩
      have hBA : B = A + (w + 1) := by rw [hA, hB, Nat.mul_succ]
      have hBT : B ≤ T := by rw [hB, hT]; exact Nat.mul_le_mul_left _ (by omega)
      have mA : mulD (.int ((w : Int) + 1)) (.int (j : Int)) = .ok (.int (A : Int)) := by rw [mulD_ok (mw _), hA]; rfl
      have mB : mulD (.int ((w : Int) + 1)) (.int ((j : Int) + 1)) = .ok (.int (B : Int)) := by rw [mulD_ok (mw _), hB]; rfl
      have ecut := cutP_mid (ds.map PyData.int) A B
      rw [← List.map_drop, ← List.map_take] at ecut
      have hpl : ((ds.drop A).take (B - A)).length = w + 1 := by rw [List.length_take, List.length_drop, dl]; omega
      have hpb : ∀ x ∈ (ds.drop A).take (B - A), 0 ≤ x ∧ x < 7 := fun x hx => db x (List.mem_of_mem_drop (List.mem_of_mem_take hx))
      generalize (ds.drop A).take (B - A) = piece at *
      have lc := lcS_map (S := fIt itemsL (fSh (fSl (fVarB 4) (fSome (fOp mulD (fSh (fOp addD (fVarB 2) (fC (.int 1)))) (fVarB 6))) (fSome (fOp mulD (fSh (fOp addD (fVarB 2) (fC (.int 1)))) (fSh (fOp addD (fVarB 6) (fC (.int 1))))))))) (T := tgN 8) (F := fOp subD (fVarB 8) (fC (.int 3))) (vs := [8])
        (ρ := [.sh (.list (ns.map .int)), .sh (.int st), .sh (.int w), .sh (.int n), .ol (ds.map .int), .ol (s.map TD), .sh (natD j), x7, x8, x9]) piece PyData.int (fun x => PyData.int (x - 3)) (by generalize ds.map PyData.int = R at *; generalize ns.map PyData.int = R2 at *; generalize s.map TD = R3 at *; simp [natD, mA, mB, ecut]) (fun x _ => ⟨_, rfl, by simp [wipeE]⟩) (by rw [hpl, lim_eq]; omega)
      have erow : piece.map (fun x => PyData.int (x - 3)) = (piece.map fun x => x - 3).map .int := by rw [List.map_map]; rfl
      rw [erow] at lc
      have hrl : (piece.map fun x => x - 3).length = w + 1 := by rw [List.length_map]; exact hpl
      have hrb : ∀ x ∈ piece.map fun x => x - 3, x.natAbs ≤ 3 := fun x hx => by
        obtain ⟨a, ha, rfl⟩ := List.mem_map.mp hx
        have := hpb a ha
        omega
      generalize (piece.map fun x => x - 3) = row at *
      have ecut2 := cutP_init (row.map PyData.int)
      have eany : anyD (.list (row.map PyData.int).dropLast) = .ok (.bool (row.dropLast.any fun i => i != 0)) := by rw [← List.map_dropLast]; exact anyD_list _
      by_cases ha : row.dropLast.any (fun i => i != 0) = true
      · rw [ha] at eany
        have hnz : ∃ y ∈ row.dropLast, y ≠ 0 := by
          obtain ⟨x, hx, h0⟩ := List.any_eq_true.mp ha
          exact ⟨x, hx, by simpa using h0⟩
        have hf := fence_plain hrl hrb hnz
        have ep := ev_lplain true row (by obtain ⟨y, hy, h0⟩ := hnz; exact ⟨y, (List.dropLast_sublist _).subset hy, h0⟩) (fun x hx => bd3 (hrb x hx)) (by omega)
        have ep : f__law_plain [.list (row.map .int)] = .ok (.sh (TD (plainL row))) := ep
        have hnin := ninD_TD s (plainL row)
        have hap : (s.map TD).length < lim := by rw [List.length_map, lim_eq]; omega
        refine ⟨_, [.sh (.list (ns.map .int)), .sh (.int st), .sh (.int w), .sh (.int n), .ol (ds.map .int), .ol ((addTD s (plainL row)).map TD), .sh (natD j), .sh (.list (row.map .int)), x8, .sh (TD (plainL row))], rfl, ?_, addTD s (plainL row), _, _, _, _, by have := addTD_len s (plainL row); omega, fun W hW => ?_, rfl⟩
        · unfold addTD
          generalize row.map PyData.int = R at *
          generalize ds.map PyData.int = R1 at *
          generalize ns.map PyData.int = R2 at *
          generalize hV : TD (plainL row) = V at *
          cases hh : hasTD s (plainL row) with
          | true =>
            rw [hh] at hnin
            simp only [natD, if_true] at lc ⊢
            generalize s.map TD = R3 at *
            simp [p1__law_fences, lc, ecut2, eany, fz1_eq, ep, hnin]
          | false =>
            rw [hh] at hnin
            simp only [natD, Bool.false_eq_true, if_false, List.map_append, List.map_singleton] at lc ⊢
            rw [hV]
            generalize s.map TD = R3 at *
            simp [p1__law_fences, lc, ecut2, eany, fz1_eq, ep, hnin, appD_ok hap]
        · unfold addTD at hW
          split at hW
          · exact sf W hW
          · rcases List.mem_append.mp hW with q | q
            · exact sf W q
            · rw [List.mem_singleton.mp q]; exact hf
      · have ha : row.dropLast.any (fun i => i != 0) = false := by simpa using ha
        rw [ha] at eany
        refine ⟨_, [.sh (.list (ns.map .int)), .sh (.int st), .sh (.int w), .sh (.int n), .ol (ds.map .int), .ol (s.map TD), .sh (natD j), .ol (row.map .int), x8, x9], rfl, ?_, s, _, _, _, _, by omega, sf, rfl⟩
        generalize row.map PyData.int = R at *
        generalize ds.map PyData.int = R1 at *
        generalize ns.map PyData.int = R2 at *
        generalize s.map TD = R3 at *
        simp only [natD] at lc ⊢
        simp [p1__law_fences, lc, ecut2, eany])
  refine ⟨s, by rw [List.length_map, List.length_range] at sl; exact sl, sf, ?_⟩
  generalize ds.map PyData.int = R1 at *
  generalize ns.map PyData.int = R2 at *
  generalize s.map TD = R3 at *
  simp [f__law_fences, fnOf4, b__law_fences, mT, ed, rng1_nat (n := n) (by omega), el]
theorem dok_ints (xs : List Int) : DOk 1 (.list (xs.map .int)) := dok_list fun d hd => by
  obtain ⟨i, _, rfl⟩ := List.mem_map.mp hd
  exact dok_int i
theorem eqD_cons0 (x : Int) (xs : List Int) : eqD (.list (.int x :: xs.map .int)) (.list []) = .ok (.bool false) := by
  have h1 : DOk 60 (.list (.int x :: xs.map .int)) := (dok_ints (x :: xs)).mono (by decide)
  have h2 : DOk 60 (.list []) := (dok_ints []).mono (by decide)
  unfold eqD
  rw [if_pos ⟨dok_shaped h1, dok_shaped h2⟩]
  simp [PyData.eqv, PyData.eqvAll]
theorem eqD_00 : eqD (.list []) (.list []) = .ok (.bool true) := eqD_self ((dok_ints []).mono (by decide))
theorem eqD_ints0 (xs : List Int) : eqD (.list (xs.map .int)) (.list []) = .ok (.bool xs.isEmpty) := by
  cases xs with
  | nil => exact eqD_00
  | cons x xs => exact eqD_cons0 x xs
def sumI (ys q : List Int) (t : Int) : Int := (ys.zip q).foldl (fun t a => t + a.1 * a.2) t
theorem fold_shift : ∀ (zs : List (Int × Int)) (t c : Int), zs.foldl (fun t a => t + a.1 * a.2) (t + c) = zs.foldl (fun t a => t + a.1 * a.2) t + c
  | [], t, c => rfl
  | z :: zs, t, c => by
    rw [List.foldl_cons, List.foldl_cons, show t + c + z.1 * z.2 = t + z.1 * z.2 + c by omega]
    exact fold_shift zs _ c
theorem zip_snoc : ∀ (ys q : List Int) (n : Int), q.length < ys.length → ys.zip (q ++ [n]) = ys.zip q ++ [(ys.getD q.length 0, n)]
  | [], q, n, h => absurd h (Nat.not_lt_zero _)
  | y :: ys, [], n, _ => by simp
  | y :: ys, a :: q, n, h => by
    have := zip_snoc ys q n (by simpa using h)
    simp only [List.cons_append, List.zip_cons_cons, this, List.length_cons, List.getD_cons_succ]
theorem sumI_snoc (ys q : List Int) (n t : Int) (h : q.length < ys.length) : sumI ys (q ++ [n]) t = sumI ys q (t + n * ys.getD q.length 0) := by
  unfold sumI
  rw [zip_snoc ys q n h, List.foldl_append, fold_shift, Int.mul_comm n]
  rfl
def pts (p : Nat) : Nat → List (List Int)
  | 0 => [[]]
  | k + 1 => (pts p k).flatMap fun q => (List.range p).map fun (n : Nat) => q ++ [(n : Int)]
theorem pts_len (p : Nat) : ∀ k, ∀ q ∈ pts p k, q.length = k
  | 0, q, h => by rw [List.mem_singleton.mp h]; rfl
  | k + 1, q, h => by
    obtain ⟨r, hr, hq⟩ := List.mem_flatMap.mp h
    obtain ⟨n, _, rfl⟩ := List.mem_map.mp hq
    rw [List.length_append, pts_len p k r hr]
    rfl
theorem pts_count (p : Nat) : ∀ k, (pts p k).length = p ^ k
  | 0 => rfl
  | k + 1 => by
    unfold pts
    rw [List.length_flatMap]
    have : (List.map (fun q => ((List.range p).map fun (n : Nat) => q ++ [(n : Int)]).length) (pts p k)) = List.replicate (pts p k).length p := by
      rw [← List.map_const']
      exact List.map_congr_left fun q _ => by rw [List.length_map, List.length_range]
    rw [this, List.sum_replicate_nat, pts_count p k, Nat.pow_succ]
def offS (p : Nat) (walls : List (List Int)) (S : List Int) (q : List Int) : Bool := (S.zip walls).all fun a => (sumI a.2 q a.1).fmod p != 0
def nxS (walls : List (List Int)) (w : Nat) (S : List Int) (n : Int) : List Int := (S.zip walls).map fun a => a.1 + n * a.2.getD w 0
theorem zip_nx : ∀ (walls : List (List Int)) (S : List Int) (w : Nat) (n : Int), (nxS walls w S n).zip walls = (S.zip walls).map fun a => (a.1 + n * a.2.getD w 0, a.2)
  | [], S, w, n => by unfold nxS; simp
  | W :: walls, [], w, n => by unfold nxS; simp
  | W :: walls, t :: S, w, n => by
    have := zip_nx walls S w n
    unfold nxS at this ⊢
    simp only [List.zip_cons_cons, List.map_cons, this]
theorem offS_snoc (p : Nat) (walls : List (List Int)) (S q : List Int) (n : Int) (hw : ∀ W ∈ walls, q.length < W.length) : offS p walls S (q ++ [n]) = offS p walls (nxS walls q.length S n) q := by
  unfold offS
  rw [zip_nx, List.all_map]
  apply Bool.eq_iff_iff.mpr
  rw [List.all_eq_true, List.all_eq_true]
  have e : ∀ a ∈ S.zip walls, sumI a.2 (q ++ [n]) a.1 = sumI a.2 q (a.1 + n * a.2.getD q.length 0) := fun a ha => sumI_snoc _ _ _ _ (hw _ (List.of_mem_zip ha).2)
  exact ⟨fun h a ha => by have := h a ha; rw [e a ha] at this; exact this, fun h a ha => by rw [e a ha]; exact h a ha⟩
theorem sum_add {α : Type} (f g : α → Nat) : ∀ xs : List α, (xs.map fun a => f a + g a).sum = (xs.map f).sum + (xs.map g).sum
  | [] => rfl
  | x :: xs => by
    simp only [List.map_cons, List.sum_cons, sum_add f g xs]
    omega
theorem sum_zero {α : Type} : ∀ xs : List α, (xs.map fun _ => (0 : Nat)).sum = 0
  | [] => rfl
  | x :: xs => by simp only [List.map_cons, List.sum_cons, sum_zero xs]
theorem sum_swap {α β : Type} (f : α → β → Nat) (ys : List β) : ∀ xs : List α, (xs.map fun a => (ys.map fun b => f a b).sum).sum = (ys.map fun b => (xs.map fun a => f a b).sum).sum
  | [] => (sum_zero ys).symm
  | x :: xs => by
    simp only [List.map_cons, List.sum_cons]
    rw [sum_swap f ys xs, ← sum_add]
theorem countP_sum {α : Type} (P : α → Bool) : ∀ xs : List α, xs.countP P = (xs.map fun a => if P a = true then 1 else 0).sum
  | [] => rfl
  | x :: xs => by
    rw [List.countP_cons, countP_sum P xs, List.map_cons, List.sum_cons]
    omega
def cnt (p : Nat) (walls : List (List Int)) : Nat → List Int → Nat
  | 0, S => if (S.all fun t => t.fmod p != 0) = true then 1 else 0
  | w + 1, S => ((List.range p).map fun (n : Nat) => cnt p walls w (nxS walls w S n)).sum
theorem nx_len (walls : List (List Int)) (w : Nat) (S : List Int) (n : Int) (h : S.length = walls.length) : (nxS walls w S n).length = walls.length := by
  unfold nxS
  rw [List.length_map, List.length_zip]
  omega
theorem all_zip (p : Nat) : ∀ (S : List Int) (walls : List (List Int)), S.length = walls.length → (S.all fun t => t.fmod p != 0) = (S.zip walls).all fun a => a.1.fmod p != 0
  | [], _, _ => rfl
  | t :: S, [], h => by simp at h
  | t :: S, W :: walls, h => by
    rw [List.zip_cons_cons, List.all_cons, List.all_cons, all_zip p S walls (by simpa using h)]
theorem cnt_eq (p : Nat) (walls : List (List Int)) : ∀ (w : Nat) (S : List Int), S.length = walls.length → (∀ W ∈ walls, w < W.length) → cnt p walls w S = (pts p w).countP (offS p walls S)
  | 0, S, h, _ => by
    unfold cnt pts
    rw [List.countP_singleton, all_zip p S walls h]
    have : offS p walls S [] = (S.zip walls).all fun a => a.1.fmod p != 0 := by
      unfold offS sumI
      simp only [List.zip_nil_right, List.foldl_nil]
    rw [this]
  | w + 1, S, h, hw => by
    unfold cnt pts
    rw [List.countP_flatMap]
    have e1 : ∀ n : Nat, cnt p walls w (nxS walls w S n) = ((pts p w).map fun q => if offS p walls (nxS walls w S n) q = true then 1 else 0).sum := fun n => by
      rw [cnt_eq p walls w _ (nx_len walls w S n h) (fun W hW => by have := hw W hW; omega), countP_sum]
    have e2 : ∀ q ∈ pts p w, (List.countP (offS p walls S) ∘ fun q => (List.range p).map fun (n : Nat) => q ++ [(n : Int)]) q = ((List.range p).map fun (n : Nat) => if offS p walls (nxS walls w S n) q = true then 1 else 0).sum := fun q hq => by
      show List.countP (offS p walls S) ((List.range p).map fun (n : Nat) => q ++ [(n : Int)]) = _
      rw [List.countP_map, countP_sum]
      congr 1
      apply List.map_congr_left
      intro n _
      have hl := pts_len p w q hq
      show (if offS p walls S (q ++ [(n : Int)]) = true then 1 else 0) = _
      rw [offS_snoc p walls S q n (fun W hW => by have := hw W hW; omega), hl]
    rw [List.map_congr_left (fun n _ => e1 n), List.map_congr_left e2, sum_swap]
theorem filter_empty (p : Nat) : ∀ S : List Int, (S.filter fun t => t.fmod p == 0).isEmpty = S.all fun t => t.fmod p != 0
  | [] => rfl
  | t :: S => by
    have ih := filter_empty p S
    by_cases h : t.fmod p = 0
    · rw [List.filter_cons_of_pos (by simpa using h), List.all_cons]
      simp [h]
    · rw [List.filter_cons_of_neg (by simpa using h), List.all_cons, ih]
      simp [h]
theorem zip_walls (S : List Int) (walls : List (List Int)) : zipL (S.map PyData.int) (walls.map TD) = (S.zip walls).map fun a => pairD (.int a.1) (TD a.2) := by
  unfold zipL
  rw [List.zipWith_map, List.zip, List.map_zipWith]
theorem ev_count0 (p : Nat) (hp : 0 < p) (walls : List (List Int)) (hwl : walls.length ≤ 1000) (m : Nat) (S : List Int) (hS : S.length = walls.length) :
    f__law_count (m + 1) [.list (walls.map TD), .int p, .list (S.map .int), .int 0] = .ok (.sh (.int (cnt p walls 0 S))) := by
  have hp0 : (p : Int) ≠ 0 := by omega
  have hmd : ∀ x : Int, modD (.int x) (.int (p : Int)) = .ok (.int (x.fmod p)) := fun x => modD_ok hp0
  have lc := lcS_of (S := fIt itemsL (fVarB 2)) (T := tgN 4) (C := fB (fOp eqD (fOp modD (fVarB 4) (fVarB 1)) (fC (.int 0)))) (F := fVarS 4) (vs := [4])
    (ρ := [.sh (.list (walls.map TD)), .sh (.int p), .sh (.list (S.map .int)), .sh (.int 0), .no, .no, .no, .no, .no]) S PyData.int (fun t => t.fmod p == 0) PyData.int (by simp) (fun x _ => ⟨_, rfl, by simp [wipeE, hmd], fun _ => by simp [wipeE]⟩) (by rw [lim_eq]; omega)
  have he := eqD_ints0 (S.filter fun t => t.fmod p == 0)
  rw [filter_empty] at he
  show fnOf 4 9 (b__law_count (f__law_count m)) _ = _
  rw [fnOf4]
  unfold cnt
  generalize (S.filter fun t => t.fmod p == 0).map PyData.int = R at *
  cases hb : (S.all fun t => t.fmod p != 0) with
  | true =>
    rw [hb] at he
    simp [b__law_count, lc, he]
  | false =>
    rw [hb] at he
    simp [b__law_count, lc, he]
theorem take_range {p i j : Nat} (h : (List.range p)[i]? = some j) : i = j ∧ (List.range p).take (i + 1) = (List.range p).take i ++ [j] := by
  refine ⟨?_, by rw [List.take_add_one, h]; rfl⟩
  obtain ⟨a, b⟩ := List.getElem?_eq_some_iff.mp h
  rw [List.getElem_range] at b
  exact b
theorem ev_count (p : Nat) (hp : 0 < p) (hp2 : p < 1000) (walls : List (List Int)) (hwl : walls.length ≤ 1000) : ∀ (m w : Nat) (S : List Int), w ≤ m → S.length = walls.length → (∀ W ∈ walls, w < W.length) →
    f__law_count (m + 1) [.list (walls.map TD), .int p, .list (S.map .int), .int w] = .ok (.sh (.int (cnt p walls w S)))
  | m, 0, S, _, hS, _ => ev_count0 p hp walls hwl m S hS
  | 0, w + 1, S, h, _, _ => absurd h (by omega)
  | m + 1, w + 1, S, h, hS, hW => by
    have ih : ∀ n : Int, f__law_count (m + 1) [.list (walls.map TD), .int p, .list ((nxS walls w S n).map .int), .int w] = .ok (.sh (.int (cnt p walls w (nxS walls w S n)))) := fun n => ev_count p hp hp2 walls hwl m w _ (by omega) (nx_len walls w S n hS) (fun W hw => by have := hW W hw; omega)
    have hix : ∀ W ∈ walls, getP (W.map PyData.int) (w : Int) = .ok (.int (W.getD w 0)) := fun W hw => by
      have := hW W hw
      refine getP_nat ?_
      rw [List.getElem?_map, List.getElem?_eq_getElem (by omega), List.getD_eq_getElem?_getD, List.getElem?_eq_getElem (by omega)]
      rfl
    have ew : ((w + 1 : Nat) : Int) = (w : Int) + 1 := rfl
    rw [ew]
    show fnOf 4 9 (b__law_count (f__law_count (m + 1))) _ = _
    rw [fnOf4]
    generalize f__law_count (m + 1) = rec at *
    obtain ⟨ρ', el, x6, x7, rfl⟩ := for_inv (T := tgN 6) (B := p1__law_count rec) (ds := (List.range p).map natD) (ρ := [.sh (.list (walls.map TD)), .sh (.int p), .sh (.list (S.map .int)), .sh (.int ((w : Int) + 1)), .no, .sh (.int 0), .no, .no, .no])
      (fun i ρ => ∃ (x6 x7 : Sl), ρ = [.sh (.list (walls.map TD)), .sh (.int p), .sh (.list (S.map .int)), .sh (.int ((w : Int) + 1)), .no, .sh (.int ((((List.range p).take i).map fun (n : Nat) => cnt p walls w (nxS walls w S n)).sum : Nat)), x6, x7, .no])
      ⟨.no, .no, rfl⟩ (fun i d ρ hd hI => by
        obtain ⟨x6, x7, rfl⟩ := hI
        rw [List.getElem?_map] at hd
        obtain ⟨j, hj, rfl⟩ := Option.map_eq_some_iff.mp hd
        obtain ⟨rfl, ht⟩ := take_range hj
        have hip : i < p := by
          have := List.mem_of_getElem? hj
          rwa [List.mem_range] at this
        have mi : ∀ x : Int, mulOk (i : Int) x := fun x => mulOk_left (by rw [show (2 : Nat) ^ 64 = 18446744073709551616 from rfl]; omega)
        have es : (((List.range p).take (i + 1)).map fun (n : Nat) => cnt p walls w (nxS walls w S n)).sum = (((List.range p).take i).map fun (n : Nat) => cnt p walls w (nxS walls w S n)).sum + cnt p walls w (nxS walls w S i) := by
          rw [ht, List.map_append, List.sum_append, List.map_singleton, List.sum_singleton]
        have ihi := ih i
        rw [es]
        generalize (((List.range p).take i).map fun (n : Nat) => cnt p walls w (nxS walls w S n)).sum = M at *
        generalize cnt p walls w (nxS walls w S i) = C at *
        have lc := lcS_map (S := fIt zipM (fCons (fVarS 2) (fCons (fVarS 0) fNil))) (T := tgT 2 (tgCons (tgN 4) (tgCons (tgN 8) tgNil))) (F := fSh (fOp addD (fVarB 4) (fOp mulD (fVarB 6) (fOp ixD (fVarB 8) (fOp subD (fVarB 3) (fC (.int 1))))))) (vs := [4, 8])
          (ρ := [.sh (.list (walls.map TD)), .sh (.int p), .sh (.list (S.map .int)), .sh (.int ((w : Int) + 1)), .no, .sh (.int (M : Int)), .sh (natD i), x7, .no])
          (S.zip walls) (fun a => pairD (.int a.1) (TD a.2)) (fun a => PyData.int (a.1 + (i : Int) * a.2.getD w 0)) (by rw [← zip_walls]; simp) (fun a ha => ⟨_, rfl, by
            have h1 := hix a.2 (List.of_mem_zip ha).2
            generalize a.2.getD w 0 = y at *
            simp only [TD]
            generalize a.2.map PyData.int = R at *
            simp [wipeE, natD, h1, mulD_ok (mi _)]⟩) (by rw [List.length_zip, lim_eq]; omega)
        have en : (S.zip walls).map (fun a => PyData.int (a.1 + (i : Int) * a.2.getD w 0)) = (nxS walls w S i).map .int := by unfold nxS; rw [List.map_map]; rfl
        rw [en] at lc
        refine ⟨_, [.sh (.list (walls.map TD)), .sh (.int p), .sh (.list (S.map .int)), .sh (.int ((w : Int) + 1)), .no, .sh (.int ((M + C : Nat) : Int)), .sh (natD i), .sh (.list ((nxS walls w S i).map .int)), .no], rfl, ?_, _, _, rfl⟩
        generalize (nxS walls w S i).map PyData.int = R at *
        generalize walls.map TD = R2 at *
        generalize S.map PyData.int = R3 at *
        simp only [natD] at lc ⊢
        simp [p1__law_count, lc, fz1_eq, ihi])
    have hlr : ((List.range p).map natD).length = p := by rw [List.length_map, List.length_range]
    rw [hlr, List.take_of_length_le (by rw [List.length_range]; exact Nat.le_refl _)] at el
    have ec : cnt p walls (w + 1) S = ((List.range p).map fun (n : Nat) => cnt p walls w (nxS walls w S n)).sum := rfl
    rw [ec]
    generalize ((List.range p).map fun (n : Nat) => cnt p walls w (nxS walls w S n)).sum = M at *
    generalize walls.map TD = R2 at *
    generalize S.map PyData.int = R3 at *
    have hne : ((w : Int) + 1 == 0) = false := beq_eq_false_iff_ne.mpr (by omega)
    have hne2 : ¬ ((w : Int) + 1 = 0) := by omega
    simp [b__law_count, hne, hne2, rng1_nat (n := p) (by omega), el]
theorem addL_ok {xs ys : List PyData} (h : xs.length + ys.length ≤ lim) : addD (.list xs) (.list ys) = .ok (.ol (xs ++ ys)) := if_pos h
def stepQ (p : Nat) (q : List Int) : List (List Int) := (List.range p).map fun (n : Nat) => q ++ [(n : Int)]
theorem stepQ_len (p : Nat) : ∀ Q : List (List Int), (Q.flatMap (stepQ p)).length = Q.length * p
  | [] => by simp
  | q :: Q => by
    rw [List.flatMap_cons, List.length_append, stepQ_len p Q, List.length_cons, Nat.succ_mul]
    unfold stepQ
    rw [List.length_map, List.length_range]
    omega
theorem ev_points_in (w p : Nat) (hp : p < 1000) (Q : List (List Int)) (hq : ∀ q ∈ Q, q.length ≤ 100) (hQ : Q.length * p ≤ 100000) (s2 s3 s4 s5 s6 : Sl) (h2 : s2 = .ol (Q.map TD) ∨ s2 = .sh (.list (Q.map TD))) :
    ∃ x5 x6, p2_points_by_rests [.sh (.int w), .sh (.int p), s2, s3, s4, s5, s6] = .ok (.nx [.sh (.int w), .sh (.int p), .sh (.list ((Q.flatMap (stepQ p)).map TD)), s3, .sh (.list ((Q.flatMap (stepQ p)).map TD)), x5, x6]) := by
  obtain ⟨ρ', el, x5, x6, rfl⟩ := for_inv (T := tgN 5) (B := p1_points_by_rests) (ds := Q.map TD) (ρ := [.sh (.int w), .sh (.int p), .sh (.list (Q.map TD)), s3, .ol [], s5, s6])
    (fun i ρ => ∃ x5 x6, ρ = [.sh (.int w), .sh (.int p), .sh (.list (Q.map TD)), s3, .ol (((Q.take i).flatMap (stepQ p)).map TD), x5, x6])
    ⟨s5, s6, rfl⟩ (fun i d ρ hd hI => by
      obtain ⟨x5, x6, rfl⟩ := hI
      rw [List.getElem?_map] at hd
      obtain ⟨q, hqi, rfl⟩ := Option.map_eq_some_iff.mp hd
      have hql := hq q (List.mem_of_getElem? hqi)
      have hiQ := (List.getElem?_eq_some_iff.mp hqi).1
      have et : (Q.take (i + 1)).flatMap (stepQ p) = (Q.take i).flatMap (stepQ p) ++ stepQ p q := by
        rw [List.take_add_one, hqi, List.flatMap_append]
        simp
      have hlen : ((Q.take i).flatMap (stepQ p)).length ≤ 100000 := by
        rw [stepQ_len, List.length_take]
        exact Nat.le_trans (Nat.mul_le_mul_right _ (Nat.min_le_right _ _)) hQ
      rw [et, List.map_append]
      have hsl : (stepQ p q).length = p := by unfold stepQ; rw [List.length_map, List.length_range]
      generalize (Q.take i).flatMap (stepQ p) = F at *
      have lc := lcS_map (S := fIt rng1 (fCons (fVarS 1) fNil)) (T := tgN 6) (F := fSh (fOp addD (fVarB 5) (fUn tupD (fCons (fVarS 6) fNil)))) (vs := [6])
        (ρ := [.sh (.int w), .sh (.int p), .sh (.list (Q.map TD)), s3, .ol (F.map TD), .sh (TD q), x6]) (List.range p) natD (fun (n : Nat) => TD (q ++ [(n : Int)])) (by simp [rng1_nat (n := p) (by omega)]) (fun n _ => ⟨_, rfl, by
          have := addD_tuple (xs := q.map PyData.int) (ys := [.int (n : Int)]) (by rw [List.length_map, lim_eq]; simp; omega)
          simp only [TD, List.map_append, List.map_singleton]
          generalize q.map PyData.int = R at *
          simp [wipeE, natD, this]⟩) (by rw [List.length_range, lim_eq]; omega)
      have en : (List.range p).map (fun (n : Nat) => TD (q ++ [(n : Int)])) = (stepQ p q).map TD := by unfold stepQ; rw [List.map_map]; rfl
      rw [en] at lc
      have ha := addL_ok (xs := F.map TD) (ys := (stepQ p q).map TD) (by rw [List.length_map, List.length_map, hsl, lim_eq]; omega)
      refine ⟨_, [.sh (.int w), .sh (.int p), .sh (.list (Q.map TD)), s3, .ol (F.map TD ++ (stepQ p q).map TD), .sh (TD q), x6], rfl, ?_, _, _, rfl⟩
      generalize (stepQ p q).map TD = R1 at *
      generalize F.map TD = R2 at *
      generalize Q.map TD = R3 at *
      simp [p1_points_by_rests, lc, ha])
  rw [List.length_map, List.take_of_length_le (Nat.le_refl _)] at el
  refine ⟨x5, x6, ?_⟩
  generalize (Q.flatMap (stepQ p)).map TD = R1 at *
  generalize Q.map TD = R3 at *
  rcases h2 with rfl | rfl
  · simp [p2_points_by_rests, fz1_eq, el]
  · simp [p2_points_by_rests, fz1_eq, el]
theorem ev_points (w p : Nat) (hw : w ≤ 10) (hp0 : 0 < p) (hp : p < 1000) (hB : p ^ w ≤ 100000) : ∃ r : Sl, f_points_by_rests [.int w, .int p] = .ok r ∧ (r = .ol ((pts p w).map TD) ∨ r = .sh (.list ((pts p w).map TD))) := by
  obtain ⟨ρ', el, A, x3, x4, x5, x6, hA, rfl⟩ := for_inv (T := tgN 3) (B := p2_points_by_rests) (ds := (List.range w).map natD) (ρ := [.sh (.int w), .sh (.int p), .ol [TD []], .no, .no, .no, .no])
    (fun i ρ => ∃ A x3 x4 x5 x6, (A = .ol ((pts p i).map TD) ∨ A = .sh (.list ((pts p i).map TD))) ∧ ρ = [.sh (.int w), .sh (.int p), A, x3, x4, x5, x6])
    ⟨_, _, _, _, _, .inl rfl, rfl⟩ (fun i d ρ hd hI => by
      obtain ⟨A, x3, x4, x5, x6, hA, rfl⟩ := hI
      rw [List.getElem?_map] at hd
      obtain ⟨j, hj, rfl⟩ := Option.map_eq_some_iff.mp hd
      have hi : i < w := by
        have := (List.getElem?_eq_some_iff.mp hj).1
        rwa [List.length_range] at this
      have hQ : (pts p i).length * p ≤ 100000 := by
        rw [pts_count, ← Nat.pow_succ]
        exact Nat.le_trans (Nat.pow_le_pow_right hp0 hi) hB
      obtain ⟨y5, y6, e⟩ := ev_points_in w p hp (pts p i) (fun q hq => by rw [pts_len p i q hq]; omega) hQ A (.sh (natD j)) x4 x5 x6 hA
      exact ⟨_, _, rfl, e, _, _, _, _, _, .inr rfl, rfl⟩)
  rw [List.length_map, List.length_range] at hA
  have e0 : tupD [] = .ok (.tuple []) := tupD_ok (by show 0 ≤ 1000000; decide)
  simp only [TD, List.map_nil] at el
  refine ⟨A, ?_, hA⟩
  rcases hA with rfl | rfl
  · generalize (pts p w).map TD = R at *
    simp [f_points_by_rests, fnOf2, b_points_by_rests, e0, rng1_nat (n := w) (by omega), el]
  · generalize (pts p w).map TD = R at *
    simp [f_points_by_rests, fnOf2, b_points_by_rests, e0, rng1_nat (n := w) (by omega), el]
theorem for_all {α : Type} {T : Tgt} {B : Env → Rs Out} (I : Env → Prop) (m : α → PyData) (P : α → Bool) (v : Sl) : ∀ (xs : List α) (ρ : Env), I ρ →
    (∀ a ∈ xs, ∀ ρ, I ρ → ∃ ρ1, T (m a) ρ = some ρ1 ∧ ((P a = true → ∃ ρ2, B ρ1 = .ok (.nx ρ2) ∧ I ρ2) ∧ (P a = false → B ρ1 = .ok (.rt v)))) →
    (xs.all P = true → ∃ ρ', forF T B (xs.map m) ρ = .ok (.nx ρ') ∧ I ρ') ∧ (xs.all P = false → forF T B (xs.map m) ρ = .ok (.rt v))
  | [], ρ, hi, _ => ⟨fun _ => ⟨ρ, rfl, hi⟩, fun h => by simp at h⟩
  | a :: xs, ρ, hi, h => by
    obtain ⟨ρ1, e1, g1, g2⟩ := h a List.mem_cons_self ρ hi
    rw [List.map_cons, List.all_cons]
    unfold forF
    rw [e1]
    show (_ → ∃ ρ', after (B ρ1) (forF T B (xs.map m)) = .ok (.nx ρ') ∧ I ρ') ∧ (_ → after (B ρ1) (forF T B (xs.map m)) = .ok (.rt v))
    cases hP : P a with
    | true =>
      obtain ⟨ρ2, e2, i2⟩ := g1 hP
      have ih := for_all I m P v xs ρ2 i2 fun b hb => h b (List.mem_cons_of_mem _ hb)
      rw [e2, after_nx, Bool.true_and]
      exact ih
    | false =>
      rw [g2 hP, Bool.false_and]
      exact ⟨fun h => (nomatch h), fun _ => rfl⟩
def wallZ (a : List Int × Int) : List Int := a.1 ++ [a.2]
def offZ (p : Nat) (q : List Int) (a : List Int × Int) : Bool := (sumI a.1 q (0 - a.2)).fmod p != 0
theorem ev_isoff (p : Nat) (hp0 : 0 < p) (hp : p < 1000) (L : List (List Int × Int)) (q : List Int) (hq : ∀ x ∈ q, x.natAbs < 2 ^ 64) : f_is_off [.list ((L.map wallZ).map TD), TD q, .int p] = .ok (.sh (.bool (L.all (offZ p q)))) := by
  have hpz : (p : Int) ≠ 0 := by omega
  have hmd : ∀ x : Int, modD (.int x) (.int (p : Int)) = .ok (.int (x.fmod p)) := fun x => modD_ok hpz
  have inner : ∀ (a : List Int × Int) (s0 s3 s5 s6 : Sl), ∃ x5 x6, forF (tgT 2 (tgCons (tgN 5) (tgCons (tgN 6) tgNil))) p1_is_off ((a.1.zip q).map fun b => pairD (.int b.1) (.int b.2)) [s0, .sh (TD q), .sh (.int p), s3, .sh (.int (0 - a.2)), s5, s6] = .ok (.nx [s0, .sh (TD q), .sh (.int p), s3, .sh (.int (sumI a.1 q (0 - a.2))), x5, x6]) := fun a s0 s3 s5 s6 => by
    obtain ⟨ρ', el, x5, x6, rfl⟩ := for_inv (T := tgT 2 (tgCons (tgN 5) (tgCons (tgN 6) tgNil))) (B := p1_is_off) (ds := (a.1.zip q).map fun b => pairD (.int b.1) (.int b.2)) (ρ := [s0, .sh (TD q), .sh (.int p), s3, .sh (.int (0 - a.2)), s5, s6])
      (fun i ρ => ∃ x5 x6, ρ = [s0, .sh (TD q), .sh (.int p), s3, .sh (.int (((a.1.zip q).take i).foldl (fun t b => t + b.1 * b.2) (0 - a.2))), x5, x6])
      ⟨s5, s6, rfl⟩ (fun i d ρ hd hI => by
        obtain ⟨x5, x6, rfl⟩ := hI
        rw [List.getElem?_map] at hd
        obtain ⟨b, hb, rfl⟩ := Option.map_eq_some_iff.mp hd
        have hbq := hq b.2 (List.of_mem_zip (List.mem_of_getElem? hb)).2
        have e : (a.1.zip q).take (i + 1) = (a.1.zip q).take i ++ [b] := by rw [List.take_add_one, hb]; rfl
        rw [e, List.foldl_append]
        simp only [List.foldl_cons, List.foldl_nil]
        generalize ((a.1.zip q).take i).foldl (fun t b => t + b.1 * b.2) (0 - a.2) = t at *
        generalize TD q = Q at *
        refine ⟨_, _, rfl, ?_, .sh (.int b.1), .sh (.int b.2), rfl⟩
        simp [p1_is_off, mulD_ok (mulOk_right (a := b.1) hbq)])
    rw [List.length_map, List.take_of_length_le (Nat.le_refl _)] at el
    exact ⟨x5, x6, el⟩
  obtain ⟨g1, g2⟩ := for_all (T := tgN 3) (B := p2_is_off) (fun ρ => ∃ s3 s4 s5 s6 : Sl, ρ = [.sh (.list ((L.map wallZ).map TD)), .sh (TD q), .sh (.int p), s3, s4, s5, s6]) (fun a => TD (wallZ a)) (offZ p q) (.sh (.bool false)) L
    [.sh (.list ((L.map wallZ).map TD)), .sh (TD q), .sh (.int p), .no, .no, .no, .no] ⟨_, _, _, _, rfl⟩ fun a _ ρ hI => by
      obtain ⟨s3, s4, s5, s6, rfl⟩ := hI
      obtain ⟨x5, x6, el⟩ := inner a (.sh (.list ((L.map wallZ).map TD))) (.sh (TD (wallZ a))) s5 s6
      have ecut : cutP ((wallZ a).map PyData.int) none (some (-1)) = a.1.map .int := by unfold wallZ; rw [cutP_init, List.map_append, List.map_singleton, List.dropLast_concat]
      have elast : getP ((wallZ a).map PyData.int) (-1) = .ok (.int a.2) := by unfold wallZ; rw [List.map_append, List.map_singleton, ix_last]
      have ez : zipM [.tuple (a.1.map .int), TD q] = .ok ((a.1.zip q).map fun b => pairD (.int b.1) (.int b.2)) := by
        show Rs.ok (zipL _ _) = _
        unfold zipL
        rw [List.zipWith_map, List.zip, List.map_zipWith]
      refine ⟨_, rfl, ?_, ?_⟩
      · intro h
        have h : ((sumI a.1 q (0 - a.2)).fmod p == 0) = false := by
          unfold offZ at h
          simpa using h
        generalize ((a.1.zip q).map fun b => pairD (.int b.1) (.int b.2)) = Z at *
        generalize (L.map wallZ).map TD = LL at *
        generalize sumI a.1 q (0 - a.2) = t at *
        refine ⟨[.sh (.list LL), .sh (TD q), .sh (.int p), .sh (TD (wallZ a)), .sh (.int t), x5, x6], ?_, _, _, _, _, rfl⟩
        generalize TD q = Q at *
        simp only [TD, Int.zero_sub] at el ⊢
        generalize (wallZ a).map PyData.int = R at *
        simp [p2_is_off, ecut, elast, ez, el, hmd, h]
      · intro h
        have h : (sumI a.1 q (0 - a.2)).fmod p = 0 := by
          unfold offZ at h
          simpa using h
        generalize ((a.1.zip q).map fun b => pairD (.int b.1) (.int b.2)) = Z at *
        generalize (L.map wallZ).map TD = LL at *
        generalize sumI a.1 q (0 - a.2) = t at *
        generalize TD q = Q at *
        simp only [TD, Int.zero_sub] at el ⊢
        generalize (wallZ a).map PyData.int = R at *
        simp [p2_is_off, ecut, elast, ez, el, hmd, h]
  have em : (L.map fun a => TD (wallZ a)) = (L.map wallZ).map TD := by rw [List.map_map]; rfl
  rw [em] at g1 g2
  generalize (L.map wallZ).map TD = LL at *
  generalize TD q = Q at *
  cases hA : L.all (offZ p q) with
  | true =>
    obtain ⟨ρ', el, s3, s4, s5, s6, rfl⟩ := g1 hA
    simp [f_is_off, fnOf3, b_is_off, el]
  | false =>
    have el := g2 hA
    simp [f_is_off, fnOf3, b_is_off, el]
theorem pts_small (p : Nat) (hp : p < 1000) : ∀ k, ∀ q ∈ pts p k, ∀ x ∈ q, x.natAbs < 2 ^ 64
  | 0, q, h => by rw [List.mem_singleton.mp h]; exact fun _ h => nomatch h
  | k + 1, q, h => by
    obtain ⟨r, hr, hq⟩ := List.mem_flatMap.mp h
    obtain ⟨n, hn, rfl⟩ := List.mem_map.mp hq
    intro x hx
    rcases List.mem_append.mp hx with hx | hx
    · exact pts_small p hp k r hr x hx
    · rw [List.mem_singleton.mp hx, show (2 : Nat) ^ 64 = 18446744073709551616 from rfl]
      have := List.mem_range.mp hn
      omega
theorem ev_off_all (w p : Nat) (hw : w ≤ 10) (hp0 : 0 < p) (hp : p < 1000) (hB : p ^ w ≤ 100000) (L : List (List Int × Int)) : f_off_all [.int w, .list ((L.map wallZ).map TD), .int p] = .ok (.sh (.int ((pts p w).countP fun q => L.all (offZ p q)))) := by
  obtain ⟨r, e, hr⟩ := ev_points w p hw hp0 hp hB
  have hoff : ∀ q ∈ pts p w, f_is_off [.list ((L.map wallZ).map TD), TD q, .int p] = .ok (.sh (.bool (L.all (offZ p q)))) := fun q hq => ev_isoff p hp0 hp L q (pts_small p hp w q hq)
  generalize (L.map wallZ).map TD = LL at *
  have lc := lcS_of (S := fIt itemsL (fSh (fCall f_points_by_rests (fCons (fVarS 0) (fCons (fVarS 2) fNil))))) (T := tgN 3) (C := fB (fSh (fCall f_is_off (fCons (fVarS 1) (fCons (fVarS 3) (fCons (fVarS 2) fNil)))))) (F := fVarS 3) (vs := [3])
    (ρ := [.sh (.int w), .sh (.list LL), .sh (.int p), .no]) (pts p w) TD (fun q => L.all (offZ p q)) TD (by
      generalize (pts p w).map TD = R at *
      rcases hr with rfl | rfl
      · simp [e]
      · simp [e]) (fun q hq => ⟨_, rfl, by
        have := hoff q hq
        generalize TD q = Q at *
        simp [wipeE, this], fun _ => by simp [wipeE]⟩) (by rw [pts_count, lim_eq]; omega)
  have el : (((pts p w).filter fun q => L.all (offZ p q)).map TD).length = (pts p w).countP fun q => L.all (offZ p q) := by rw [List.length_map, List.countP_eq_length_filter]
  generalize ((pts p w).filter fun q => L.all (offZ p q)).map TD = R at *
  simp [f_off_all, fnOf3, b_off_all, lc, el]
theorem zip_cut : ∀ (ys q : List Int) (z : Int), q.length ≤ ys.length → (ys ++ [z]).zip q = ys.zip q
  | ys, [], z, _ => by simp
  | [], a :: q, z, h => absurd h (by simp)
  | y :: ys, a :: q, z, h => by
    simp only [List.cons_append, List.zip_cons_cons, zip_cut ys q z (by simpa using h)]
theorem off_eq (p : Nat) (L : List (List Int × Int)) (q : List Int) (h : ∀ a ∈ L, q.length ≤ a.1.length) : offS p (L.map wallZ) (L.map fun a => 0 - a.2) q = L.all (offZ p q) := by
  unfold offS
  rw [List.zip_map', List.all_map]
  apply Bool.eq_iff_iff.mpr
  rw [List.all_eq_true, List.all_eq_true]
  have e : ∀ a ∈ L, sumI (wallZ a) q (0 - a.2) = sumI a.1 q (0 - a.2) := fun a ha => by unfold sumI wallZ; rw [zip_cut _ _ _ (h a ha)]
  refine ⟨fun g a ha => ?_, fun g a ha => ?_⟩
  · have := g a ha
    simp only [Function.comp_apply] at this
    rw [e a ha] at this
    exact this
  · simp only [Function.comp_apply]
    rw [e a ha]
    exact g a ha
theorem cnt_off (p w : Nat) (L : List (List Int × Int)) (h : ∀ a ∈ L, a.1.length = w) : cnt p (L.map wallZ) w (L.map fun a => 0 - a.2) = (pts p w).countP fun q => L.all (offZ p q) := by
  rw [cnt_eq p _ w _ (by rw [List.length_map, List.length_map]) (fun W hW => by
    obtain ⟨a, ha, rfl⟩ := List.mem_map.mp hW
    unfold wallZ
    rw [List.length_append, h a ha]
    simp)]
  apply List.countP_congr
  intro q hq
  rw [off_eq p L q (fun a ha => by rw [pts_len p w q hq, h a ha]; exact Nat.le_refl _)]
theorem six_of (m : Int) (h : 0 ≤ m ∧ m < 6) : m = 0 ∨ m = 1 ∨ m = 2 ∨ m = 3 ∨ m = 4 ∨ m = 5 := by omega
theorem ev_prime (ns : List Int) (w : Nat) (hw : w ≤ 3) : ∃ p : Nat, 0 < p ∧ p ≤ 13 ∧ ∀ rest : Env, (fV (fOp ixD (fSh (fUn lstD (fCons (fC (.int 2)) (fCons (fC (.int 3)) (fCons (fC (.int 5)) (fCons (fC (.int 7)) (fCons (fC (.int 11)) (fCons (fC (.int 13)) fNil)))))))) (fOp modD (fSh (fCall f__law_mixed (fCons (fVarS 0) (fCons (fC (.int 2)) fNil)))) (fOp ixD (fSh (fUn lstD (fCons (fC (.int 6)) (fCons (fC (.int 6)) (fCons (fC (.int 6)) (fCons (fC (.int 4)) fNil)))))) (fVarB 1))))) (.sh (.list (ns.map .int)) :: .sh (.int w) :: rest) = .ok (.sh (.int p)) := by
  obtain ⟨M, M0, M1, eM⟩ := ev_mixed ns 2 (by omega)
  have eM : f__law_mixed [.list (ns.map .int), .int 2] = .ok (.sh (.int M)) := eM
  generalize ns.map PyData.int = R at *
  have g : ∀ a b c d : PyData, getP [a, b, c, d] 0 = .ok a ∧ getP [a, b, c, d] 1 = .ok b ∧ getP [a, b, c, d] 2 = .ok c ∧ getP [a, b, c, d] 3 = .ok d := fun a b c d => ⟨getP_nat (i := 0) rfl, getP_nat (i := 1) rfl, getP_nat (i := 2) rfl, getP_nat (i := 3) rfl⟩
  have k : ∀ a b c d e f : PyData, getP [a, b, c, d, e, f] 0 = .ok a ∧ getP [a, b, c, d, e, f] 1 = .ok b ∧ getP [a, b, c, d, e, f] 2 = .ok c ∧ getP [a, b, c, d, e, f] 3 = .ok d ∧ getP [a, b, c, d, e, f] 4 = .ok e ∧ getP [a, b, c, d, e, f] 5 = .ok f :=
    fun a b c d e f => ⟨getP_nat (i := 0) rfl, getP_nat (i := 1) rfl, getP_nat (i := 2) rfl, getP_nat (i := 3) rfl, getP_nat (i := 4) rfl, getP_nat (i := 5) rfl⟩
  have l6 : ∀ a b c d e f : PyData, lstD [a, b, c, d, e, f] = .ok (.ol [a, b, c, d, e, f]) := fun a b c d e f => if_pos (by show 6 ≤ 1000000; decide)
  have hsix : w < 3 → ∀ rest : Env, (fOp ixD (fSh (fUn lstD (fCons (fC (.int 6)) (fCons (fC (.int 6)) (fCons (fC (.int 6)) (fCons (fC (.int 4)) fNil)))))) (fVarB 1)) (.sh (.list R) :: .sh (.int w) :: rest) = .ok (.int 6) := fun h rest => by
    have : w = 0 ∨ w = 1 ∨ w = 2 := by omega
    rcases this with rfl | rfl | rfl <;> simp [g]
  have hfour : w = 3 → ∀ rest : Env, (fOp ixD (fSh (fUn lstD (fCons (fC (.int 6)) (fCons (fC (.int 6)) (fCons (fC (.int 6)) (fCons (fC (.int 4)) fNil)))))) (fVarB 1)) (.sh (.list R) :: .sh (.int w) :: rest) = .ok (.int 4) := fun h rest => by
    subst h
    simp [g]
  generalize (fOp ixD (fSh (fUn lstD (fCons (fC (.int 6)) (fCons (fC (.int 6)) (fCons (fC (.int 6)) (fCons (fC (.int 4)) fNil)))))) (fVarB 1)) = Z at *
  by_cases h3 : w < 3
  · rcases six_of _ (fmod_bd M 6 (by decide)) with h | h | h | h | h | h
    · exact ⟨2, by decide, by decide, fun rest => by simp [hsix h3, eM, modD_ok, h, k, l6]⟩
    · exact ⟨3, by decide, by decide, fun rest => by simp [hsix h3, eM, modD_ok, h, k, l6]⟩
    · exact ⟨5, by decide, by decide, fun rest => by simp [hsix h3, eM, modD_ok, h, k, l6]⟩
    · exact ⟨7, by decide, by decide, fun rest => by simp [hsix h3, eM, modD_ok, h, k, l6]⟩
    · exact ⟨11, by decide, by decide, fun rest => by simp [hsix h3, eM, modD_ok, h, k, l6]⟩
    · exact ⟨13, by decide, by decide, fun rest => by simp [hsix h3, eM, modD_ok, h, k, l6]⟩
  · have hf := hfour (by omega)
    have h4 := fmod_bd M 4 (by decide)
    have : M.fmod 4 = 0 ∨ M.fmod 4 = 1 ∨ M.fmod 4 = 2 ∨ M.fmod 4 = 3 := by omega
    rcases this with h | h | h | h
    · exact ⟨2, by decide, by decide, fun rest => by simp [hf, eM, modD_ok, h, k, l6]⟩
    · exact ⟨3, by decide, by decide, fun rest => by simp [hf, eM, modD_ok, h, k, l6]⟩
    · exact ⟨5, by decide, by decide, fun rest => by simp [hf, eM, modD_ok, h, k, l6]⟩
    · exact ⟨7, by decide, by decide, fun rest => by simp [hf, eM, modD_ok, h, k, l6]⟩
theorem ev_q3 (ns : List Int) (w : Nat) (hw : w ≤ 3) (L : List (List Int × Int)) (hL : L.length ≤ 1000) (h : ∀ a ∈ L, a.1.length = w) (A x3 x4 x5 : Sl) (hA : A = .ol ((L.map wallZ).map TD) ∨ A = .sh (.list ((L.map wallZ).map TD))) :
    q3_law [.sh (.list (ns.map .int)), .sh (.int w), A, x3, x4, x5, .no, .no, .no, .no] = .ok (.rt (.sh (.bool true))) := by
  obtain ⟨p, hp0, hp13, ep⟩ := ev_prime ns w hw
  have hB : p ^ w ≤ 100000 := Nat.le_trans (Nat.pow_le_pow_left hp13 w) (Nat.le_trans (Nat.pow_le_pow_right (by decide) hw) (by decide))
  have e1 := ev_off_all w p (by omega) hp0 (by omega) hB L
  have e2 := ev_count p hp0 (by omega) (L.map wallZ) (by rw [List.length_map]; exact hL) 3 w (L.map fun a => 0 - a.2) hw (by rw [List.length_map, List.length_map]) (fun W hW => by
    obtain ⟨a, ha, rfl⟩ := List.mem_map.mp hW
    unfold wallZ
    rw [List.length_append, h a ha]
    simp)
  rw [cnt_off p w L h] at e2
  have e2 : f__law_count 4 [.list ((L.map wallZ).map TD), .int p, .list ((L.map fun a => 0 - a.2).map .int), .int w] = _ := e2
  have heq := eqD_self ((dok_LTD (L.map wallZ)).mono (show 2 ≤ 60 by decide))
  generalize (pts p w).countP (fun q => L.all (offZ p q)) = C at *
  have lc := fun (F9 : Sl) => lcS_map (S := fIt itemsL (fVarB 2)) (T := tgN 4) (F := fOp subD (fC (.int 0)) (fOp ixD (fVarB 4) (fUn negD (fC (.int 1))))) (vs := [4])
    (ρ := [.sh (.list (ns.map .int)), .sh (.int w), .sh (.list ((L.map wallZ).map TD)), x3, x4, x5, .sh (.int p), .sh (.list ((L.map wallZ).map TD)), F9, .no]) L (fun a => TD (wallZ a)) (fun a => PyData.int (0 - a.2)) (by simp [Function.comp_def]) (fun a _ => ⟨_, rfl, by
      have elast : getP ((wallZ a).map PyData.int) (-1) = .ok (.int a.2) := by unfold wallZ; rw [List.map_append, List.map_singleton, ix_last]
      simp only [TD]
      generalize (wallZ a).map PyData.int = R at *
      simp [wipeE, elast]⟩) (by rw [lim_eq]; omega)
  have en : L.map (fun a => PyData.int (0 - a.2)) = (L.map fun a => 0 - a.2).map .int := by rw [List.map_map]; rfl
  rw [en] at lc
  generalize (L.map fun a => 0 - a.2).map PyData.int = S at *
  generalize (L.map wallZ).map TD = D at *
  unfold q3_law
  simp only [z_seq, z_set]
  rw [ep]
  generalize ns.map PyData.int = R at *
  have lc1 := lc (.sh (.int (C : Int)))
  have lc2 := lc .no
  rcases hA with rfl | rfl
  · simp [listD, fz1_eq, e1, lc1, lc2, e2, ev_lwhole, heq]
  · simp [listD, fz1_eq, e1, lc1, lc2, e2, ev_lwhole, heq]
theorem splitZ {w : Nat} : ∀ (s : List (List Int)), (∀ W ∈ s, W.length = w + 1) → ∃ L : List (List Int × Int), s = L.map wallZ ∧ ∀ a ∈ L, a.1.length = w
  | [], _ => ⟨[], rfl, fun _ h => nomatch h⟩
  | W :: s, h => by
    obtain ⟨L, rfl, hL⟩ := splitZ s fun X hX => h X (List.mem_cons_of_mem _ hX)
    have hl := h W List.mem_cons_self
    have hne : W ≠ [] := fun z => by rw [z] at hl; cases hl
    refine ⟨(W.dropLast, W.getLast hne) :: L, ?_, fun a ha => ?_⟩
    · rw [List.map_cons]
      congr 1
      exact (List.dropLast_concat_getLast hne).symm
    · rcases List.mem_cons.mp ha with rfl | ha
      · show W.dropLast.length = w
        rw [List.length_dropLast, hl]
        rfl
      · exact hL a ha
theorem ev_end (ns : List Int) (w : Nat) (hw : w ≤ 3) (s : List (List Int)) (hs : s.length ≤ 1000) (h : ∀ W ∈ s, W.length = w + 1) (A x3 x4 x5 : Sl) (hA : A = .ol (s.map TD) ∨ A = .sh (.list (s.map TD))) :
    q3_law [.sh (.list (ns.map .int)), .sh (.int w), A, x3, x4, x5, .no, .no, .no, .no] = .ok (.rt (.sh (.bool true))) := by
  obtain ⟨L, rfl, hL⟩ := splitZ s h
  exact ev_q3 ns w hw L (by rwa [List.length_map] at hs) hL A x3 x4 x5 hA
theorem ev_wide (ns : List Int) (w : Nat) (hw : w ≤ 3) (s : List (List Int)) (hs : s.length ≤ 100) (sf : ∀ W ∈ s, Fence w W) (S : Sl) :
    ∃ (t : List (List Int)) (x4 x5 : Sl), t.length ≤ s.length ∧ (∀ W ∈ t, W.length = w + 1) ∧ forF (tgN 4) p1_law (s.map TD) [.sh (.list (ns.map .int)), .sh (.int w), S, .ol [], .no, .no, .no, .no, .no, .no] =
      .ok (.nx [.sh (.list (ns.map .int)), .sh (.int w), S, .ol (t.map TD), x4, x5, .no, .no, .no, .no]) := by
  have e2 : f__law_cell_at [.list (ns.map .int), .int 2] = _ := ev_lcell ns 2
  generalize ns.getD 2 0 = c2 at *
  have e2 : f__law_cell_at [.list (ns.map .int), .int 2] = .ok (.sh (.int c2)) := e2
  obtain ⟨r0, r1⟩ := fmod_bd c2 1000000000000000000000000000000 (by decide)
  have hmr : modD (.int c2) (.int 1000000000000000000000000000000) = .ok (.int (c2.fmod 1000000000000000000000000000000)) := modD_ok (by decide)
  generalize hr : c2.fmod 1000000000000000000000000000000 = r at *
  obtain ⟨ρ', el, t, x4, x5, tl, th, rfl⟩ := for_inv (T := tgN 4) (B := p1_law) (ds := s.map TD) (ρ := [.sh (.list (ns.map .int)), .sh (.int w), S, .ol [], .no, .no, .no, .no, .no, .no])
    (fun i ρ => ∃ (t : List (List Int)) (x4 x5 : Sl), t.length ≤ i ∧ (∀ W ∈ t, W.length = w + 1) ∧ ρ = [.sh (.list (ns.map .int)), .sh (.int w), S, .ol (t.map TD), x4, x5, .no, .no, .no, .no])
    ⟨[], .no, .no, Nat.le_refl _, (fun _ h => nomatch h), rfl⟩ (fun i d ρ hd hI => by
      obtain ⟨t, x4, x5, tl, th, rfl⟩ := hI
      rw [List.getElem?_map] at hd
      obtain ⟨W, hW, rfl⟩ := Option.map_eq_some_iff.mp hd
      have F := sf W (List.mem_of_getElem? hW)
      have hi := (List.getElem?_eq_some_iff.mp hW).1
      have hl := F.len
      have hne : W ≠ [] := fun z => by rw [z] at hl; cases hl
      have hsp := List.dropLast_concat_getLast hne
      have hnz := F.nz
      have hbd := F.bd
      have hyl : W.dropLast.length = w := by rw [List.length_dropLast, hl]; rfl
      generalize W.dropLast = ys at *
      generalize W.getLast hne = z at *
      have ezb : z.natAbs ≤ 3 := hbd z (by rw [← hsp]; exact List.mem_append_right _ (List.mem_singleton.mpr rfl))
      have eyb : ∀ y ∈ ys, y.natAbs ≤ 3 := fun y hy => hbd y (by rw [← hsp]; exact List.mem_append_left _ hy)
      have ep := ev_lplain false (ys ++ [z + r]) (by obtain ⟨y, hy, h0⟩ := hnz; exact ⟨y, List.mem_append_left _ hy, h0⟩) (fun x hx => by
        rcases List.mem_append.mp hx with q | q
        · exact bd3 (eyb x q)
        · rw [List.mem_singleton.mp q]
          exact bd_mono (m := 101) (by rw [show (2 : Nat) ^ 101 = 2535301200456458802993406410752 from rfl]; omega) (by decide)) (by rw [List.length_append, hyl]; simp; omega)
      have ep : f__law_plain [.tuple ((ys ++ [z + r]).map .int)] = .ok (.sh (TD (plainL (ys ++ [z + r])))) := ep
      have hpl : (plainL (ys ++ [z + r])).length = w + 1 := by rw [plainL_len, List.length_append, hyl]; rfl
      have ecut : cutP (W.map PyData.int) none (some (-1)) = ys.map .int := by rw [← hsp, cutP_init, List.map_append, List.map_singleton, List.dropLast_concat]
      have elast : getP (W.map PyData.int) (-1) = .ok (.int z) := by rw [← hsp, List.map_append, List.map_singleton, ix_last]
      have ead := addD_tuple (xs := ys.map PyData.int) (ys := [.int (z + r)]) (by rw [List.length_map, hyl, lim_eq]; simp; omega)
      rw [List.map_append, List.map_singleton] at ep
      have hnin := ninD_TD t (plainL (ys ++ [z + r]))
      have hap : (t.map TD).length < lim := by rw [List.length_map, lim_eq]; omega
      refine ⟨_, [.sh (.list (ns.map .int)), .sh (.int w), S, .ol ((addTD t (plainL (ys ++ [z + r]))).map TD), .sh (TD W), .sh (.tuple (ys.map PyData.int ++ [.int (z + r)])), .no, .no, .no, .no], rfl, ?_, addTD t (plainL (ys ++ [z + r])), _, _, by have := addTD_len t (plainL (ys ++ [z + r])); omega, fun X hX => ?_, rfl⟩
      · unfold addTD
        have eTW : TD W = .tuple (W.map .int) := rfl
        rw [eTW]
        generalize W.map PyData.int = WW at *
        generalize ys.map PyData.int = Y at *
        generalize ns.map PyData.int = R2 at *
        generalize plainL (ys ++ [z + r]) = PL at *
        cases hh : hasTD t PL with
        | true =>
          rw [hh] at hnin
          simp only [if_true]
          generalize TD PL = V at *
          generalize t.map TD = R3 at *
          simp [p1_law, ecut, elast, e2, hmr, ead, ep, hnin]
        | false =>
          rw [hh] at hnin
          simp only [Bool.false_eq_true, if_false, List.map_append, List.map_singleton]
          generalize TD PL = V at *
          generalize t.map TD = R3 at *
          simp [p1_law, ecut, elast, e2, hmr, ead, ep, hnin, appD_ok hap]
      · unfold addTD at hX
        split at hX
        · exact th X hX
        · rcases List.mem_append.mp hX with q | q
          · exact th X q
          · rw [List.mem_singleton.mp q]; exact hpl)
  exact ⟨t, x4, x5, by rwa [List.length_map] at tl, th, el⟩
theorem law_true (ns : List Int) (hl : ns.length ≤ 63) : f_law [.list (ns.map .int)] = .ok (.sh (.bool true)) := by
  have e0 : f__law_cell_at [.list (ns.map .int), .int 0] = _ := ev_lcell ns 0
  generalize ns.getD 0 0 = c0 at *
  have e0 : f__law_cell_at [.list (ns.map .int), .int 0] = .ok (.sh (.int c0)) := e0
  obtain ⟨a0, a1⟩ := fmod_bd (c0.fdiv 2) 4 (by decide)
  obtain ⟨b0, b1⟩ := fmod_bd (c0.fdiv 8) 7 (by decide)
  obtain ⟨w, ew, hw⟩ : ∃ w : Nat, (c0.fdiv 2).fmod 4 = (w : Int) ∧ w ≤ 3 := ⟨((c0.fdiv 2).fmod 4).toNat, by omega, by omega⟩
  obtain ⟨n, en, hn⟩ : ∃ n : Nat, (c0.fdiv 8).fmod 7 = (n : Int) ∧ n ≤ 6 := ⟨((c0.fdiv 8).fmod 7).toNat, by omega, by omega⟩
  obtain ⟨s, sl, sf, es⟩ := ev_lfences ns 3 w n (by omega) (by omega) (by omega)
  have es : f__law_fences [.list (ns.map .int), .int 3, .int (w : Int), .int (n : Int)] = .ok (.ol (s.map TD)) := es
  have tail : q2_law [.sh (.list (ns.map .int)), .sh (.int w), .ol (s.map TD), .no, .no, .no, .no, .no, .no, .no] = .ok (.rt (.sh (.bool true))) := by
    by_cases h : (c0.fdiv 56).fmod 4 = 1
    · obtain ⟨t, x4, x5, tl, th, el⟩ := ev_wide ns w hw s (by omega) sf (.sh (.list (s.map TD)))
      have e3 := ev_end ns w hw t (by omega) th (.sh (.list (t.map TD))) (.sh (.list (t.map TD))) x4 x5 (.inr rfl)
      generalize ns.map PyData.int = R at *
      generalize s.map TD = R1 at *
      generalize t.map TD = R2 at *
      simp [q2_law, e0, modD_ok, divD_ok, divOk_lit, h, fz1_eq, el, e3]
    · have h' : ((c0.fdiv 56).fmod 4 == 1) = false := beq_eq_false_iff_ne.mpr h
      have e3 := ev_end ns w hw s (by omega) (fun W hW => (sf W hW).len) (.ol (s.map TD)) .no .no .no (.inl rfl)
      generalize ns.map PyData.int = R at *
      generalize s.map TD = R1 at *
      simp [q2_law, e0, modD_ok, divD_ok, divOk_lit, h', e3]
  generalize ns.map PyData.int = R at *
  generalize s.map TD = R1 at *
  simp [f_law, fnOf1, b_law, e0, modD_ok, divD_ok, divOk_lit, ew, en, es, tail]
end PF

open PySem PySem.W PyProof.Rows
set_option maxRecDepth 100000 in
set_option maxHeartbeats 0 in
theorem PySem.Challenge.cw_wallspace_k51_points_off_walls_holds : PySem.Challenge.rw_wallspace_k51_points_off_walls.Holds := by
  w_on; o_law; k_head; (case hw => w_witness2)
  k_fill
  refine PF.walk (l := PySem.Challenge.rw_wallspace_k51_points_off_walls) rfl rfl (fun w h Y => PySem.W.kIn_of Y) ?F
  case F =>
    intro w mg fa h KX G hmg
    refine' PF.all_mk KX G hmg ?a0 ?l0 ?c0 ?k0 ?a1 ?l1 ?c1 ?k1 ?a2 ?l2 ?c2 ?k2 ?a3 ?l3 ?c3 ?k3 ?a4 ?l4 ?c4 ?k4 ?a5 ?l5 ?c5 ?k5 ?a6 ?l6 ?c6 ?k6 ?a7 ?l7 ?c7 ?k7 ?a8 ?l8 ?c8 ?k8 ?a9 ?l9 ?c9 ?k9 ?a10 ?l10 ?c10 ?k10 ?a11 ?l11 ?c11 ?k11 ?a12 ?l12 ?c12 ?k12 ?z_abs ?z_any ?z_bool ?z_int ?z_isinstance ?z_len ?z_list ?z_min ?z_range ?z_tuple ?z_zip PF.law_true
    (case a0 => k_is); (case l0 => k_is); (case c0 => k_is); (case k0 => k_is)
    (case a1 => k_is); (case l1 => k_is); (case c1 => k_is); (case k1 => k_is)
    (case a2 => k_is); (case l2 => k_is); (case c2 => k_is); (case k2 => k_is)
    (case a3 => k_is); (case l3 => k_is); (case c3 => k_is); (case k3 => k_is)
    (case a4 => k_is); (case l4 => k_is); (case c4 => k_is); (case k4 => k_is)
    (case a5 => k_is); (case l5 => k_is); (case c5 => k_is); (case k5 => k_is)
    (case a6 => k_is); (case l6 => k_is); (case c6 => k_is); (case k6 => k_is)
    (case a7 => k_is); (case l7 => k_is); (case c7 => k_is); (case k7 => k_is)
    (case a8 => k_is); (case l8 => k_is); (case c8 => k_is); (case k8 => k_is)
    (case a9 => k_is); (case l9 => k_is); (case c9 => k_is); (case k9 => k_is)
    (case a10 => k_is); (case l10 => k_is); (case c10 => k_is); (case k10 => k_is)
    (case a11 => k_is); (case l11 => k_is); (case c11 => k_is); (case k11 => k_is)
    (case a12 => k_is); (case l12 => k_is); (case c12 => k_is); (case k12 => k_is)
    (case z_abs => k_is)
    (case z_any => k_is)
    (case z_bool => k_is)
    (case z_int => k_is)
    (case z_isinstance => k_is)
    (case z_len => k_is)
    (case z_list => k_is)
    (case z_min => k_is)
    (case z_range => k_is)
    (case z_tuple => k_is)
    (case z_zip => k_is)

